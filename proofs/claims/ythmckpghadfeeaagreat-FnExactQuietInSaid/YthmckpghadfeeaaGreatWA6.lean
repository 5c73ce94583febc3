/- Marks over entries: both sides, whole. -/
import Derived.Test.YthmckpghadfeeaaGreatWA5
set_option linter.unusedVariables false
set_option linter.unusedSimpArgs false
set_option maxRecDepth 100000
namespace Go.Proofs.YthmckpghadfeeaaGreat
open Go.ChangeShapes Go.WideShapes Go.RowKit

theorem over_bad {s : List DMark} {l : List DEntry} (h : seenOk s = false) : seenOver s l = ([], false) := by simp [seenOver, h]
theorem over_len {s : List DMark} {l : List DEntry} (h : seenOk s = true) (hl : 2000 < l.length) : seenOver s l = (s, false) := by simp [seenOver, h, hl]
theorem over_none {s : List DMark} {l : List DEntry} (h : seenOk s = true) (hl : ¬ 2000 < l.length) (hf : seenFold s l = none) : seenOver s l = (s, false) := by simp [seenOver, h, hl, hf]
theorem over_some {s c : List DMark} {l : List DEntry} (h : seenOk s = true) (hl : ¬ 2000 < l.length) (hf : seenFold s l = some c) : seenOver s l = (c, true) := by simp [seenOver, h, hl, hf]
theorem marked_some {s c : List DMark} {e : DEntry} (h : markedO s e = some c) : markedL s e = (c, true) := by simp [markedL, h]
theorem marked_none {s : List DMark} {e : DEntry} (h : markedO s e = none) : markedL s e = (s, false) := by simp [markedL, h]
set_option maxHeartbeats 2000000 in
theorem sSeenOver_p (s : List DMark) (l : List DEntry) : PCall av 157 [.one (.sl (s.map DMark.ds)), .one (.sl (l.map DEntry.ds))] (pSeen (seenOver s l)) := by
  cases hseen : seenOk s with
  | false =>
    have h' : (!seenOk s) = true := by simp [hseen]
    rw [over_bad hseen]
    refine pcall_of av_ok Tryz.func157 rfl Tryz.call157 Tryz.ntmps157 (congrArg Array.toList Tryz.results157) fun S => ?_; conv => whnf
    repeat' (first | (refine AWP.seq ?_) | ((first | refine AWP.region av_ok ?_ | refine AWP.ret ?_ | refine AWP.skip ?_ | refine AWP.exit ?_ | refine AWP.block ?_ | refine AWP.cond ?_ | refine AB.tt ?_ | refine AB.ff ?_); conv => whnf) | ((first | refine AB.ofT (by assumption) ?_ | refine AB.ofF (by assumption) ?_); conv => whnf) | (refine ACall.pure (sSeenOk_p s) rfl ?_; conv => whnf) | (refine AFCall.mk ⟨_, _, sSeenOk_p s, .inl rfl, ?_⟩; conv => whnf) | (exact trivial) | (refine And.intro rfl ?_; conv => whnf) | (refine AB.mk (fun h => ?_) (fun h => ?_) <;> (conv => whnf)) | (with_reducible_and_instances rfl) | (exact (rfl : AP.tup _ = AP.tup _)))
    all_goals rfl
  | true =>
    have h' : (!seenOk s) = false := by simp [hseen]
    have hs4 := seen_le4 hseen
    refine pcall_of av_ok Tryz.func157 rfl Tryz.call157 Tryz.ntmps157 (congrArg Array.toList Tryz.results157) fun S => ?_; conv => whnf
    repeat' (first | (refine AWP.seq ?_) | ((first | refine AWP.region av_ok ?_ | refine AWP.ret ?_ | refine AWP.skip ?_ | refine AWP.exit ?_ | refine AWP.block ?_ | refine AWP.cond ?_ | refine AB.tt ?_ | refine AB.ff ?_); conv => whnf) | ((first | refine AB.ofT (by assumption) ?_ | refine AB.ofF (by assumption) ?_); conv => whnf) | (refine ACall.pure (sSeenOk_p s) rfl ?_; conv => whnf) | (refine AFCall.mk ⟨_, _, sSeenOk_p s, .inl rfl, ?_⟩; conv => whnf) | (refine ACall.pure (sl9Copy_p s (by omega)) rfl ?_; conv => whnf) | (refine AFCall.mk ⟨_, _, sl9Copy_p s (by omega), .inl rfl, ?_⟩; conv => whnf) | (exact trivial) | (refine And.intro rfl ?_; conv => whnf) | (refine AB.mk (fun h => ?_) (fun h => ?_) <;> (conv => whnf)) | (with_reducible_and_instances rfl) | (exact (rfl : AP.tup _ = AP.tup _)))
    · rw [over_len hseen (by simp only [decide_eq_true_eq, decide_eq_false_iff_not, List.length_map, Bool.not_eq_true', Bool.not_eq_false'] at *; omega)]; rfl
    · have hl : ¬ 2000 < l.length := (by simp only [decide_eq_true_eq, decide_eq_false_iff_not, List.length_map, Bool.not_eq_true', Bool.not_eq_false'] at *; omega)
      clear h
      refine AWP.loopS (fun p : Nat × List DMark => p.1 ≤ l.length ∧ seenFold s (l.take p.1) = some p.2) [4, 5, 6, 7, 8, 9, 21, 22, 23, 24, 25, 26, 27, 28, 29, 30, 31, 32, 33, 34, 35, 36, 37, 38, 39, 40] (fun p => [(6, .one (.d (.sl (p.2.map DMark.ds)))), (7, vI .i64 (p.1 : Int))]) (fun _ => []) (fun p => l.length - p.1) (0, s) ⟨by simp, rfl⟩ ?_ SubO.nil (fun p hR => ?_) <;> (conv => whnf)
      · repeat' (first | exact trivial | (refine ⟨rfl, ?_⟩; conv => whnf))
      · obtain ⟨hk, hf⟩ := hR
        have hcur := fold_seen hseen hf
        by_cases hlt : p.1 < l.length
        · have hlt' : decide ((p.1 : Int) < ((l.map DEntry.ds).length : Int)) = true := by simp; omega
          cases hm : markedO p.2 l[p.1] with
          | none =>
            have hmk := marked_none hm
            have hM := sMarked_p p.2 l[p.1] hcur
            rw [hmk] at hM
            repeat' (first | (refine AWP.seq ?_) | ((first | refine AWP.region av_ok ?_ | refine AWP.ret ?_ | refine AWP.skip ?_ | refine AWP.exit ?_ | refine AWP.block ?_ | refine AWP.cond ?_ | refine AB.tt ?_ | refine AB.ff ?_); conv => whnf) | ((first | refine AB.ofT (by assumption) ?_ | refine AB.ofF (by assumption) ?_); conv => whnf) | (refine AIx.mapF (by simp only [decide_eq_true_eq, decide_eq_false_iff_not, List.length_map, Bool.not_eq_true', Bool.not_eq_false'] at *; omega) (fun hlt => ?_); conv => whnf) | (refine AW.i64 (by simp only [decide_eq_true_eq, decide_eq_false_iff_not, List.length_map, Bool.not_eq_true', Bool.not_eq_false'] at *; omega) (by simp only [decide_eq_true_eq, decide_eq_false_iff_not, List.length_map, Bool.not_eq_true', Bool.not_eq_false'] at *; omega) ?_; conv => whnf) | (refine ACall.pure (hM) rfl ?_; conv => whnf) | (refine AFCall.mk ⟨_, _, hM, .inl rfl, ?_⟩; conv => whnf) | (refine ACall.pure (sl9Copy_p s (by omega)) rfl ?_; conv => whnf) | (refine AFCall.mk ⟨_, _, sl9Copy_p s (by omega), .inl rfl, ?_⟩; conv => whnf) | (exact trivial) | (refine And.intro rfl ?_; conv => whnf) | (refine AB.mk (fun h => ?_) (fun h => ?_) <;> (conv => whnf)) | (with_reducible_and_instances rfl) | (exact (rfl : AP.tup _ = AP.tup _)))
            rw [over_none hseen hl (fold_none hlt hf hm)]; rfl
          | some c =>
            have hmk := marked_some hm
            have hM := sMarked_p p.2 l[p.1] hcur
            rw [hmk] at hM
            repeat' (first | (refine AWP.seq ?_) | ((first | refine AWP.region av_ok ?_ | refine AWP.ret ?_ | refine AWP.skip ?_ | refine AWP.exit ?_ | refine AWP.block ?_ | refine AWP.cond ?_ | refine AB.tt ?_ | refine AB.ff ?_); conv => whnf) | ((first | refine AB.ofT (by assumption) ?_ | refine AB.ofF (by assumption) ?_); conv => whnf) | (refine AIx.mapF (by simp only [decide_eq_true_eq, decide_eq_false_iff_not, List.length_map, Bool.not_eq_true', Bool.not_eq_false'] at *; omega) (fun hlt => ?_); conv => whnf) | (refine AW.i64 (by simp only [decide_eq_true_eq, decide_eq_false_iff_not, List.length_map, Bool.not_eq_true', Bool.not_eq_false'] at *; omega) (by simp only [decide_eq_true_eq, decide_eq_false_iff_not, List.length_map, Bool.not_eq_true', Bool.not_eq_false'] at *; omega) ?_; conv => whnf) | (refine ACall.pure (hM) rfl ?_; conv => whnf) | (refine AFCall.mk ⟨_, _, hM, .inl rfl, ?_⟩; conv => whnf) | (refine ACall.pure (sl9Copy_p s (by omega)) rfl ?_; conv => whnf) | (refine AFCall.mk ⟨_, _, sl9Copy_p s (by omega), .inl rfl, ?_⟩; conv => whnf) | (exact trivial) | (refine And.intro rfl ?_; conv => whnf) | (refine AB.mk (fun h => ?_) (fun h => ?_) <;> (conv => whnf)) | (with_reducible_and_instances rfl) | (exact (rfl : AP.tup _ = AP.tup _)))
            refine ANext.mk ⟨(p.1 + 1, c), ⟨(by simp only [decide_eq_true_eq, decide_eq_false_iff_not, List.length_map, Bool.not_eq_true', Bool.not_eq_false'] at *; omega), by simp only [fold_snoc hlt hf, hm]⟩, (by simp only [decide_eq_true_eq, decide_eq_false_iff_not, List.length_map, Bool.not_eq_true', Bool.not_eq_false'] at *; omega), ?_, SubO.nil⟩
            (conv => whnf); repeat' (first | exact trivial | (refine ⟨rfl, ?_⟩; conv => whnf))
        · have hlt' : decide ((p.1 : Int) < ((l.map DEntry.ds).length : Int)) = false := by simp; omega
          repeat' (first | (refine AWP.seq ?_) | ((first | refine AWP.region av_ok ?_ | refine AWP.ret ?_ | refine AWP.skip ?_ | refine AWP.exit ?_ | refine AWP.block ?_ | refine AWP.cond ?_ | refine AB.tt ?_ | refine AB.ff ?_); conv => whnf) | ((first | refine AB.ofT (by assumption) ?_ | refine AB.ofF (by assumption) ?_); conv => whnf) | (exact trivial) | (refine And.intro rfl ?_; conv => whnf) | (refine AB.mk (fun h => ?_) (fun h => ?_) <;> (conv => whnf)) | (with_reducible_and_instances rfl) | (exact (rfl : AP.tup _ = AP.tup _)))
          have hkk : p.1 = l.length := by omega
          rw [hkk, List.take_length] at hf
          rw [over_some hseen hl hf]; rfl
theorem zeroMark (w : World) : (zeroValue 206).run Tryz.prog w = .ok (DMark.v ⟨0, 0, 0⟩) w := by kernel_rfl
theorem relV_mark (m : DMark) (Z : Nat → Prop) (w : World) (ρ : Nat → Value) : RelV Z w ρ (.agg (m.ds.map .d)) m.v := by
  have : m.v = .agg [.int .i64 m.client, .int .i64 m.seq, .int .i64 m.index].toArray := rfl
  rw [this]
  refine .agg _ _ rfl fun i c u hc hu => ?_
  match i, hc, hu with
  | 0, hc, hu => simp [DMark.ds] at hc hu; subst hc hu; exact RelD.pv _ rfl
  | 1, hc, hu => simp [DMark.ds] at hc hu; subst hc hu; exact RelD.pv _ rfl
  | 2, hc, hu => simp [DMark.ds] at hc hu; subst hc hu; exact RelD.pv _ rfl
  | i + 3, hc, hu => simp [DMark.ds] at hc
theorem mark_val (m : DMark) : ∀ (Z : Nat → Prop) (w : World) (ρ : Nat → Value) (y : Value), RelV Z w ρ (.agg (m.ds.map .d)) y → y = m.v := fun Z w ρ y h => relV_pvs rfl h
section
variable {S : Base} {o : Oper} {st : ASt} {K : ASt → Prop} {x i v : Operand} {id : Nat} {n : Int} {N : Nat} {s : List DMark}
theorem AOp.lookMark (ho : o.op = .lookup 299 x i false) (hx : aEv st x fun v => v = .one (.own id)) (hi : aEv st i fun v => v = vI .i64 n) (hob : aOb st.ob id fun o => o = mapO Tryz.prog 2 N (marksF s)) (hn : (Lit.int .i64 n).wf = true)
    (hK : aDst st o.dst (.agg ((markOfL s n).ds.map .d)) K) : AOp av S o st K :=
  AOp.look (E := av) ho Tryz.underlying299 Tryz.underlying2 zeroMark hx hi hob hn (.agg ((markOfL s n).ds.map .d)) (fun Z w ρ => by rw [marksF_get]; exact relV_mark ..) hK
theorem AOp.lookMarkOk (ho : o.op = .lookup 299 x i true) (hx : aEv st x fun v => v = .one (.own id)) (hi : aEv st i fun v => v = vI .i64 n) (hob : aOb st.ob id fun o => o = mapO Tryz.prog 2 N (marksF s)) (hn : (Lit.int .i64 n).wf = true)
    (hK : aDst st o.dst (.tup [.agg ((markOfL s n).ds.map .d), vB (s.find? fun m => m.client == n).isSome]) K) : AOp av S o st K :=
  AOp.look (E := av) ho Tryz.underlying299 Tryz.underlying2 zeroMark hx hi hob hn (.agg ((markOfL s n).ds.map .d)) (fun Z w ρ => by rw [marksF_get]; exact relV_mark ..) (show aDst st o.dst (.tup [.agg ((markOfL s n).ds.map .d), vB (marksF s n).isSome]) K from (by simp only [marksF, Option.isSome_map]; exact hK))
theorem AOp.putMark {f : Int → Option Value} (m : DMark) (ho : o.op = .mapUpdate 299 x i v) (hN : N < 9223372036854775807) (hx : aEv st x fun v => v = .one (.own id)) (hi : aEv st i fun v => v = vI .i64 m.client) (hob : aOb st.ob id fun o => o = mapO Tryz.prog 2 N f) (hn : (Lit.int .i64 m.client).wf = true)
    (hv : aEv st v fun v => v = .agg (m.ds.map .d)) {g : Int → Option Value} (hg : updF f m.client (some m.v) = g)
    (hK : aSetO id (mapO Tryz.prog 2 (N + 1) g) st.ob fun ob => aDst ⟨st.tm, ob⟩ o.dst (.one .und) K) : AOp av S o st K := by
  subst hg
  refine AOp.mapPut (E := av) (u := m.v) ho Tryz.underlying299 Tryz.underlying2 hN hx hi hob hn ?_ hK
  exact (aEv_cps (st := st) v).mono (fun x (h : x = .agg (m.ds.map .d)) => by subst h; exact mark_val m) hv
end
end Go.Proofs.YthmckpghadfeeaaGreat
