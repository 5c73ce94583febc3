/- Joined: WTo WEq WSz -/
import Derived.Test.YtmgcnmdbhahhlaaGreatJ04
import Derived.Test.YtmgcnmdbhahhlaaGreatJ02
set_option linter.unusedVariables false
set_option linter.unusedSimpArgs false
set_option maxRecDepth 100000
namespace Go.Proofs.YtmgcnmdbhahhlaaGreat
open Go.ChangeShapes Go.WideShapes Go.RowKit

section
variable {α : Type}
def cpG (enc : α → List AD) (z : List AD) (l : List α) (k : Nat) : List (List AD) := (l.take k).map enc ++ List.replicate (l.length - k) z
theorem cpG_zero (enc : α → List AD) (z : List AD) (l : List α) : cpG enc z l 0 = List.replicate l.length z := by simp [cpG]
theorem cpG_end (enc : α → List AD) (z : List AD) (l : List α) : cpG enc z l l.length = l.map enc := by simp [cpG]
theorem cpG_set (enc : α → List AD) (z : List AD) (l : List α) (k : Nat) (hk : k < l.length) : (cpG enc z l k).set k (enc l[k]) = cpG enc z l (k + 1) := by
  unfold cpG
  have h1 : ((l.take k).map enc).length = k := by simp; omega
  rw [List.set_append_right _ _ (by omega), h1, Nat.sub_self, take_snocW enc hk, List.append_assoc]
  congr 1
  rw [show l.length - k = (l.length - (k + 1)) + 1 by omega, List.replicate_succ]
  rfl
theorem cpG_at (enc : α → List AD) (z : List AD) (l : List α) (k : Nat) (hk : k < l.length) : (cpG enc z l k)[k]? = some z := by
  have h1 : ((l.take k).map enc).length = k := by simp; omega
  unfold cpG
  rw [List.getElem?_append_right (by omega), h1, List.getElem?_replicate, if_pos (by omega)]
theorem fz_at {β : Type} {cs : List β} {k n : Nat} (z : β) (h : cs.length = k) (hk : k < n) : (cs ++ List.replicate (n - k) z)[k]? = some z := by
  rw [List.getElem?_append_right (by omega), List.getElem?_replicate, if_pos (by omega)]
theorem fz_set {β : Type} {cs : List β} {k n : Nat} {x : β} (z : β) (h : cs.length = k) (hk : k < n) : (cs ++ List.replicate (n - k) z).set k x = (cs ++ [x]) ++ List.replicate (n - (k + 1)) z := by
  rw [List.set_append_right _ _ (by omega), h, Nat.sub_self, show n - k = (n - (k + 1)) + 1 by omega, List.replicate_succ, List.append_assoc]
  rfl
end

theorem toInt64S_f (l : (List Int)) (hs : l.length ≤ 1048576) : FCall av 41 [.one (.sl (l.map eI))] (.one (.sl (l.map eI))) := by
  have hl : l.length ≤ 1048576 := hs
  refine fcall_of av_ok Tryz.func41 rfl Tryz.call41 Tryz.ntmps41 (congrArg Array.toList Tryz.results41) fun S => ?_; conv => whnf
  repeat' (first | (refine aw0 ?_) | ((first | refine aw1 ?_ | refine aw2 ?_ | refine aw3 ?_ | refine aw4 ?_ | refine aw5 ?_ | refine aw6 ?_ | refine aw7 ?_ | refine aw8 ?_); conv => whnf) | ((first | refine bT ?_ | refine bF ?_); conv => whnf) | (refine ⟨l.length, by simp, by simp, (show 8 * l.length ≤ _ by omega), by omega, ?_⟩; conv => whnf) | (exact rr) | (refine And.intro rfl ?_; conv => whnf) | (refine AB.mk (fun h => ?_) (fun h => ?_) <;> (conv => whnf)))
  refine AWP.loopS (fun k : Nat => k ≤ l.length) (7 :: [4, 8, 9, 10, 11, 12, 13, 14, 15, 16, 17, 18, 19, 20]) (fun k => [(3, .one (.own 7)), (4, vI .i64 (k : Int))]) (fun k => [(9997, markO S.w0.heap.size S.w0.heap.size), (7, .row 2 1 (cpG eI [dI 0] l k))]) (fun k => l.length - k) 0 (by omega) ?_ (SubO.cons rfl (SubO.cons (congrArg some (congrArg (AO.row 2 1) (cpG_zero eI [dI 0] l).symm)) SubO.nil)) (fun k hR => ?_) <;> (conv => whnf)
  · exact whd
  · repeat' (first | (refine aw0 ?_) | ((first | refine aw1 ?_ | refine aw2 ?_ | refine aw3 ?_ | refine aw4 ?_ | refine aw5 ?_ | refine aw6 ?_ | refine aw7 ?_ | refine aw8 ?_); conv => whnf) | ((first | refine bT ?_ | refine bF ?_); conv => whnf) | (refine AIx.mapF ari (fun hlt => ?_); conv => whnf) | (refine AIx.at k _ rfl (cpG_at eI [dI 0] l k hlt) ?_; conv => whnf) | (refine AIx.at k _ rfl (cpG_at eI [dI 0] l k ari) ?_; conv => whnf) | (refine AW.i64 ari ari ?_; conv => whnf) | (exact rr) | (refine And.intro rfl ?_; conv => whnf) | (refine AB.mk (fun h => ?_) (fun h => ?_) <;> (conv => whnf)))
    · refine ANext.mk ⟨k + 1, hlt, by omega, ?_, SubO.cons rfl (SubO.cons (congrArg some (congrArg (AO.row 2 1) (cpG_set eI [dI 0] l k hlt))) SubO.nil)⟩
      exact hds
    · have : k = l.length := ari
      subst this
      exact ⟨_, _, l.map eI, Nat.le_refl _, by rw [cpG_end]; exact Fam.blank (lo := S.w0.heap.size) (hi := S.w0.heap.size) (by simp [AD.isBl, eI]), by rw [cpG_end], (fun y hy => by obtain ⟨a, _, rfl⟩ := List.mem_map.1 hy; rfl), rfl⟩
theorem toInt64SS_f (l : (List (List Int))) (hs : l.length ≤ 1048576 ∧ ∀ y ∈ l, y.length ≤ 1048576) : FCall av 197 [.one (.sl (l.map eIIw))] (.one (.sl (l.map eIIw))) := by
  have hl : l.length ≤ 1048576 := hs.1
  refine fcall_of av_ok Tryz.func197 rfl Tryz.call197 Tryz.ntmps197 (congrArg Array.toList Tryz.results197) fun S => ?_; conv => whnf
  repeat' (first | (refine aw0 ?_) | ((first | refine aw1 ?_ | refine aw2 ?_ | refine aw3 ?_ | refine aw4 ?_ | refine aw5 ?_ | refine aw6 ?_ | refine aw7 ?_ | refine aw8 ?_); conv => whnf) | ((first | refine bT ?_ | refine bF ?_); conv => whnf) | (refine ⟨l.length, by simp, by simp, (show 24 * l.length ≤ _ by omega), by omega, ?_⟩; conv => whnf) | (exact rr) | (refine And.intro rfl ?_; conv => whnf) | (refine AB.mk (fun h => ?_) (fun h => ?_) <;> (conv => whnf)))
  refine AWP.loopS (fun g : Nat × Nat × List (List AD) => g.1 ≤ l.length ∧ g.2.2.length = g.1 ∧ S.w0.heap.size ≤ g.2.1 ∧ Fam S.w0.heap.size g.2.1 g.2.2.flatten ((l.take g.1).map eIIw).flatten) (7 :: [4, 8, 9, 10, 11, 12, 13, 14, 15, 16, 17, 18, 19, 20, 21]) (fun g => [(3, .one (.own 7)), (4, vI .i64 (g.1 : Int))]) (fun g => [(9997, markO S.w0.heap.size g.2.1), (7, .row 62 1 (g.2.2 ++ List.replicate (l.length - g.1) [.sl []]))]) (fun g => l.length - g.1) (0, S.w0.heap.size, []) ⟨Nat.zero_le _, rfl, Nat.le_refl _, Fam.blank rfl⟩ ?_ (SubO.cons rfl (SubO.cons rfl SubO.nil)) (fun g hR => ?_) <;> (conv => whnf)
  · exact whd
  · obtain ⟨k, m, cs⟩ := g
    obtain ⟨hk, hcs, hm, hF⟩ := hR
    simp only at hk hcs hm hF
    repeat' (first | (refine aw0 ?_) | ((first | refine aw1 ?_ | refine aw2 ?_ | refine aw3 ?_ | refine aw4 ?_ | refine aw5 ?_ | refine aw6 ?_ | refine aw7 ?_ | refine aw8 ?_); conv => whnf) | ((first | refine bT ?_ | refine bF ?_); conv => whnf) | (refine AIx.mapF ari (fun hlt => ?_); conv => whnf) | (refine ACall.fresh (toInt64S_f _ (hs.2 _ (List.getElem_mem hlt))) rfl rfl fun R lo hi a1 a2 F => ?_; conv => whnf) | (refine AIx.at k _ rfl (fz_at _ hcs ari) ?_; conv => whnf) | (refine AW.i64 ari ari ?_; conv => whnf) | (exact rr) | (refine And.intro rfl ?_; conv => whnf) | (refine AB.mk (fun h => ?_) (fun h => ?_) <;> (conv => whnf)))
    · have a1 : m ≤ lo := a1
      refine ANext.mk ⟨(k + 1, hi, cs ++ [opqL R 0 (eIIw l[k])]), ⟨by simp only; omega, by simp [hcs], by simp only; omega, ?_⟩, by simp only; omega, ?_, SubO.cons rfl (SubO.cons (congrArg some (congrArg (AO.row 62 1) (fz_set _ hcs (by omega)))) SubO.nil)⟩
      · simp only
        rw [take_snocW eIIw (by omega)]
        exact hF.flat_set F (by omega) (by omega) (by omega)
      · exact hds
    · have : k = l.length := ari
      subst this
      refine ⟨_, m, l.map eIIw, Nat.le_refl _, ?_, by simp [hcs], (fun y hy => by obtain ⟨a, _, rfl⟩ := List.mem_map.1 hy; rfl), rfl⟩
      simp only [Nat.sub_self, List.replicate_zero, List.append_nil]
      rw [List.take_length] at hF
      exact hF
theorem toWrite_f (x : DWrite) (hs : DWrite.small 1048576 x) : FCall av 264 [.agg x.ds] (.agg x.ds) := by
  refine fcall_of av_ok Tryz.func264 rfl Tryz.call264 Tryz.ntmps264 (congrArg Array.toList Tryz.results264) fun S => ?_; conv => whnf
  repeat' (first | (refine aw0 ?_) | ((first | refine aw1 ?_ | refine aw2 ?_ | refine aw3 ?_ | refine aw4 ?_ | refine aw5 ?_ | refine aw6 ?_ | refine aw7 ?_ | refine aw8 ?_); conv => whnf) | (refine ACall.fresh (toInt64S_f x.row hs) rfl rfl fun R1 l1 h1 a1 b1 F1 => ?_; conv => whnf) | (exact rr) | (refine And.intro rfl ?_; conv => whnf) | (refine AB.mk (fun h => ?_) (fun h => ?_) <;> (conv => whnf)))
  exact ⟨_, _, _, (by omega : S.w0.heap.size ≤ S.w0.heap.size), (Fam.app (Fam.blank (lo := S.w0.heap.size) (hi := S.w0.heap.size) (ds := [dI x.at_]) rfl) F1 (by omega) (by omega) (by omega)), rfl⟩
theorem toWriteS_f (l : (List DWrite)) (hs : l.length ≤ 1048576 ∧ ∀ y ∈ l, DWrite.small 1048576 y) : FCall av 198 [.one (.sl (l.map DWrite.ds))] (.one (.sl (l.map DWrite.ds))) := by
  have hl : l.length ≤ 1048576 := hs.1
  refine fcall_of av_ok Tryz.func198 rfl Tryz.call198 Tryz.ntmps198 (congrArg Array.toList Tryz.results198) fun S => ?_; conv => whnf
  repeat' (first | (refine aw0 ?_) | ((first | refine aw1 ?_ | refine aw2 ?_ | refine aw3 ?_ | refine aw4 ?_ | refine aw5 ?_ | refine aw6 ?_ | refine aw7 ?_ | refine aw8 ?_); conv => whnf) | ((first | refine bT ?_ | refine bF ?_); conv => whnf) | (refine ⟨l.length, by simp, by simp, (show 32 * l.length ≤ _ by omega), by omega, ?_⟩; conv => whnf) | (exact rr) | (refine And.intro rfl ?_; conv => whnf) | (refine AB.mk (fun h => ?_) (fun h => ?_) <;> (conv => whnf)))
  refine AWP.loopS (fun g : Nat × Nat × List (List AD) => g.1 ≤ l.length ∧ g.2.2.length = g.1 ∧ S.w0.heap.size ≤ g.2.1 ∧ Fam S.w0.heap.size g.2.1 g.2.2.flatten ((l.take g.1).map DWrite.ds).flatten) (7 :: [4, 8, 9, 10, 11, 12, 13, 14, 15, 16, 17, 18, 19, 20, 21]) (fun g => [(3, .one (.own 7)), (4, vI .i64 (g.1 : Int))]) (fun g => [(9997, markO S.w0.heap.size g.2.1), (7, .row 318 2 (g.2.2 ++ List.replicate (l.length - g.1) [dI 0, .sl []]))]) (fun g => l.length - g.1) (0, S.w0.heap.size, []) ⟨Nat.zero_le _, rfl, Nat.le_refl _, Fam.blank rfl⟩ ?_ (SubO.cons rfl (SubO.cons rfl SubO.nil)) (fun g hR => ?_) <;> (conv => whnf)
  · exact whd
  · obtain ⟨k, m, cs⟩ := g
    obtain ⟨hk, hcs, hm, hF⟩ := hR
    simp only at hk hcs hm hF
    repeat' (first | (refine aw0 ?_) | ((first | refine aw1 ?_ | refine aw2 ?_ | refine aw3 ?_ | refine aw4 ?_ | refine aw5 ?_ | refine aw6 ?_ | refine aw7 ?_ | refine aw8 ?_); conv => whnf) | ((first | refine bT ?_ | refine bF ?_); conv => whnf) | (refine AIx.mapF ari (fun hlt => ?_); conv => whnf) | (refine ACall.fresh (toWrite_f _ (hs.2 _ (List.getElem_mem hlt))) rfl rfl fun R lo hi a1 a2 F => ?_; conv => whnf) | (refine AIx.at k _ rfl (fz_at _ hcs ari) ?_; conv => whnf) | (refine AW.i64 ari ari ?_; conv => whnf) | (exact rr) | (refine And.intro rfl ?_; conv => whnf) | (refine AB.mk (fun h => ?_) (fun h => ?_) <;> (conv => whnf)))
    · have a1 : m ≤ lo := a1
      refine ANext.mk ⟨(k + 1, hi, cs ++ [opqL R 0 (DWrite.ds l[k])]), ⟨by simp only; omega, by simp [hcs], by simp only; omega, ?_⟩, by simp only; omega, ?_, SubO.cons rfl (SubO.cons (congrArg some (congrArg (AO.row 318 2) (fz_set _ hcs (by omega)))) SubO.nil)⟩
      · simp only
        rw [take_snocW DWrite.ds (by omega)]
        exact hF.flat_set F (by omega) (by omega) (by omega)
      · exact hds
    · have : k = l.length := ari
      subst this
      refine ⟨_, m, l.map DWrite.ds, Nat.le_refl _, ?_, by simp [hcs], (fun y hy => by obtain ⟨a, _, rfl⟩ := List.mem_map.1 hy; rfl), rfl⟩
      simp only [Nat.sub_self, List.replicate_zero, List.append_nil]
      rw [List.take_length] at hF
      exact hF
theorem toDisk_f (x : DDisk) (hs : DDisk.small 1048576 x) : FCall av 122 [.agg x.ds] (.agg x.ds) := by
  refine fcall_of av_ok Tryz.func122 rfl Tryz.call122 Tryz.ntmps122 (congrArg Array.toList Tryz.results122) fun S => ?_; conv => whnf
  repeat' (first | (refine aw0 ?_) | ((first | refine aw1 ?_ | refine aw2 ?_ | refine aw3 ?_ | refine aw4 ?_ | refine aw5 ?_ | refine aw6 ?_ | refine aw7 ?_ | refine aw8 ?_); conv => whnf) | (refine ACall.fresh (toInt64SS_f x.kept ⟨hs.1, hs.2.1⟩) rfl rfl fun R1 l1 h1 a1 b1 F1 => ?_; conv => whnf) | (refine ACall.fresh (toWriteS_f x.wait ⟨hs.2.2.1, hs.2.2.2⟩) rfl rfl fun R2 l2 h2 a2 b2 F2 => ?_; conv => whnf) | (exact rr) | (refine And.intro rfl ?_; conv => whnf) | (refine AB.mk (fun h => ?_) (fun h => ?_) <;> (conv => whnf)))
  exact ⟨_, _, _, (by omega : S.w0.heap.size ≤ l1), (Fam.app F1 F2 (by omega) (by omega) (by omega)), rfl⟩
theorem toTwo_f (x : DTwo) (hs : DTwo.small 1048576 x) : FCall av 117 [.agg x.ds] (.agg x.ds) := by
  refine fcall_of av_ok Tryz.func117 rfl Tryz.call117 Tryz.ntmps117 (congrArg Array.toList Tryz.results117) fun S => ?_; conv => whnf
  repeat' (first | (refine aw0 ?_) | ((first | refine aw1 ?_ | refine aw2 ?_ | refine aw3 ?_ | refine aw4 ?_ | refine aw5 ?_ | refine aw6 ?_ | refine aw7 ?_ | refine aw8 ?_); conv => whnf) | (refine ACall.fresh (toDisk_f x.a hs.1) rfl rfl fun R1 l1 h1 a1 b1 F1 => ?_; conv => whnf) | (refine ACall.fresh (toDisk_f x.b hs.2) rfl rfl fun R2 l2 h2 a2 b2 F2 => ?_; conv => whnf) | (exact rr) | (refine And.intro rfl ?_; conv => whnf) | (refine AB.mk (fun h => ?_) (fun h => ?_) <;> (conv => whnf)))
  exact ⟨_, _, _, (by omega : S.w0.heap.size ≤ l1), (Fam.app F1 F2 (by omega) (by omega) (by omega)), rfl⟩
theorem toMark_p (x : DMark) : PCall av 195 [.agg x.ds] (.val (.agg x.ds)) := by
  refine pcall_of av_ok Tryz.func195 rfl Tryz.call195 Tryz.ntmps195 (congrArg Array.toList Tryz.results195) fun S => ?_; conv => whnf
  repeat' (first | (refine aw0 ?_) | ((first | refine aw1 ?_ | refine aw2 ?_ | refine aw3 ?_ | refine aw4 ?_ | refine aw5 ?_ | refine aw6 ?_ | refine aw7 ?_ | refine aw8 ?_); conv => whnf) | (exact rr) | (refine And.intro rfl ?_; conv => whnf) | (refine AB.mk (fun h => ?_) (fun h => ?_) <;> (conv => whnf)))
  all_goals rfl
theorem toMarkS_f (l : (List DMark)) (hs : l.length ≤ 1048576) : FCall av 120 [.one (.sl (l.map DMark.ds))] (.one (.sl (l.map DMark.ds))) := by
  have hl : l.length ≤ 1048576 := hs
  refine fcall_of av_ok Tryz.func120 rfl Tryz.call120 Tryz.ntmps120 (congrArg Array.toList Tryz.results120) fun S => ?_; conv => whnf
  repeat' (first | (refine aw0 ?_) | ((first | refine aw1 ?_ | refine aw2 ?_ | refine aw3 ?_ | refine aw4 ?_ | refine aw5 ?_ | refine aw6 ?_ | refine aw7 ?_ | refine aw8 ?_); conv => whnf) | ((first | refine bT ?_ | refine bF ?_); conv => whnf) | (refine ⟨l.length, by simp, by simp, (show 24 * l.length ≤ _ by omega), by omega, ?_⟩; conv => whnf) | (exact rr) | (refine And.intro rfl ?_; conv => whnf) | (refine AB.mk (fun h => ?_) (fun h => ?_) <;> (conv => whnf)))
  refine AWP.loopS (fun k : Nat => k ≤ l.length) (7 :: [4, 8, 9, 10, 11, 12, 13, 14, 15, 16, 17, 18, 19, 20, 21]) (fun k => [(3, .one (.own 7)), (4, vI .i64 (k : Int))]) (fun k => [(9997, markO S.w0.heap.size S.w0.heap.size), (7, .row 258 3 (cpG DMark.ds [dI 0, dI 0, dI 0] l k))]) (fun k => l.length - k) 0 (by omega) ?_ (SubO.cons rfl (SubO.cons (congrArg some (congrArg (AO.row 258 3) (cpG_zero DMark.ds [dI 0, dI 0, dI 0] l).symm)) SubO.nil)) (fun k hR => ?_) <;> (conv => whnf)
  · exact whd
  · repeat' (first | (refine aw0 ?_) | ((first | refine aw1 ?_ | refine aw2 ?_ | refine aw3 ?_ | refine aw4 ?_ | refine aw5 ?_ | refine aw6 ?_ | refine aw7 ?_ | refine aw8 ?_); conv => whnf) | ((first | refine bT ?_ | refine bF ?_); conv => whnf) | (refine AIx.mapF ari (fun hlt => ?_); conv => whnf) | (refine ACall.pure (toMark_p _) rfl ?_; conv => whnf) | (refine AIx.at k _ rfl (cpG_at DMark.ds [dI 0, dI 0, dI 0] l k hlt) ?_; conv => whnf) | (refine AIx.at k _ rfl (cpG_at DMark.ds [dI 0, dI 0, dI 0] l k ari) ?_; conv => whnf) | (refine AW.i64 ari ari ?_; conv => whnf) | (exact rr) | (refine And.intro rfl ?_; conv => whnf) | (refine AB.mk (fun h => ?_) (fun h => ?_) <;> (conv => whnf)))
    · refine ANext.mk ⟨k + 1, hlt, by omega, ?_, SubO.cons rfl (SubO.cons (congrArg some (congrArg (AO.row 258 3) (cpG_set DMark.ds [dI 0, dI 0, dI 0] l k hlt))) SubO.nil)⟩
      exact hds
    · have : k = l.length := ari
      subst this
      exact ⟨_, _, l.map DMark.ds, Nat.le_refl _, by rw [cpG_end]; exact Fam.blank (lo := S.w0.heap.size) (hi := S.w0.heap.size) (by simp [AD.isBl, DMark.ds]), by rw [cpG_end], (fun y hy => by obtain ⟨a, _, rfl⟩ := List.mem_map.1 hy; rfl), rfl⟩
theorem toHead_f (x : DHead) (hs : DHead.small 1048576 x) : FCall av 118 [.agg x.ds] (.agg x.ds) := by
  refine fcall_of av_ok Tryz.func118 rfl Tryz.call118 Tryz.ntmps118 (congrArg Array.toList Tryz.results118) fun S => ?_; conv => whnf
  repeat' (first | (refine aw0 ?_) | ((first | refine aw1 ?_ | refine aw2 ?_ | refine aw3 ?_ | refine aw4 ?_ | refine aw5 ?_ | refine aw6 ?_ | refine aw7 ?_ | refine aw8 ?_); conv => whnf) | (refine ACall.fresh (toMarkS_f x.seen hs) rfl rfl fun R1 l1 h1 a1 b1 F1 => ?_; conv => whnf) | (exact rr) | (refine And.intro rfl ?_; conv => whnf) | (refine AB.mk (fun h => ?_) (fun h => ?_) <;> (conv => whnf)))
  exact ⟨_, _, _, (by omega : S.w0.heap.size ≤ S.w0.heap.size), (Fam.app (Fam.blank (lo := S.w0.heap.size) (hi := S.w0.heap.size) (ds := [dI x.num, dI x.base, dI x.time]) rfl) F1 (by omega) (by omega) (by omega)), rfl⟩
theorem toOp_p (x : DOp) : PCall av 125 [.agg x.ds] (.val (.agg x.ds)) := by
  refine pcall_of av_ok Tryz.func125 rfl Tryz.call125 Tryz.ntmps125 (congrArg Array.toList Tryz.results125) fun S => ?_; conv => whnf
  repeat' (first | (refine aw0 ?_) | ((first | refine aw1 ?_ | refine aw2 ?_ | refine aw3 ?_ | refine aw4 ?_ | refine aw5 ?_ | refine aw6 ?_ | refine aw7 ?_ | refine aw8 ?_); conv => whnf) | (exact rr) | (refine And.intro rfl ?_; conv => whnf) | (refine AB.mk (fun h => ?_) (fun h => ?_) <;> (conv => whnf)))
  all_goals rfl
theorem toEntry_p (x : DEntry) : PCall av 263 [.agg x.ds] (.val (.agg x.ds)) := by
  refine pcall_of av_ok Tryz.func263 rfl Tryz.call263 Tryz.ntmps263 (congrArg Array.toList Tryz.results263) fun S => ?_; conv => whnf
  repeat' (first | (refine aw0 ?_) | ((first | refine aw1 ?_ | refine aw2 ?_ | refine aw3 ?_ | refine aw4 ?_ | refine aw5 ?_ | refine aw6 ?_ | refine aw7 ?_ | refine aw8 ?_); conv => whnf) | (refine ACall.pure (toOp_p x.op) rfl ?_; conv => whnf) | (exact rr) | (refine And.intro rfl ?_; conv => whnf) | (refine AB.mk (fun h => ?_) (fun h => ?_) <;> (conv => whnf)))
  all_goals rfl
theorem toEntryS_f (l : (List DEntry)) (hs : l.length ≤ 1048576) : FCall av 194 [.one (.sl (l.map DEntry.ds))] (.one (.sl (l.map DEntry.ds))) := by
  have hl : l.length ≤ 1048576 := hs
  refine fcall_of av_ok Tryz.func194 rfl Tryz.call194 Tryz.ntmps194 (congrArg Array.toList Tryz.results194) fun S => ?_; conv => whnf
  repeat' (first | (refine aw0 ?_) | ((first | refine aw1 ?_ | refine aw2 ?_ | refine aw3 ?_ | refine aw4 ?_ | refine aw5 ?_ | refine aw6 ?_ | refine aw7 ?_ | refine aw8 ?_); conv => whnf) | ((first | refine bT ?_ | refine bF ?_); conv => whnf) | (refine ⟨l.length, by simp, by simp, (show 72 * l.length ≤ _ by omega), by omega, ?_⟩; conv => whnf) | (exact rr) | (refine And.intro rfl ?_; conv => whnf) | (refine AB.mk (fun h => ?_) (fun h => ?_) <;> (conv => whnf)))
  refine AWP.loopS (fun k : Nat => k ≤ l.length) (7 :: [4, 8, 9, 10, 11, 12, 13, 14, 15, 16, 17, 18, 19, 20, 21]) (fun k => [(3, .one (.own 7)), (4, vI .i64 (k : Int))]) (fun k => [(9997, markO S.w0.heap.size S.w0.heap.size), (7, .row 301 9 (cpG DEntry.ds [dI 0, dI 0, dI 0, dI 0, dI 0, dI 0, dI 0, dI 0, dI 0] l k))]) (fun k => l.length - k) 0 (by omega) ?_ (SubO.cons rfl (SubO.cons (congrArg some (congrArg (AO.row 301 9) (cpG_zero DEntry.ds [dI 0, dI 0, dI 0, dI 0, dI 0, dI 0, dI 0, dI 0, dI 0] l).symm)) SubO.nil)) (fun k hR => ?_) <;> (conv => whnf)
  · exact whd
  · repeat' (first | (refine aw0 ?_) | ((first | refine aw1 ?_ | refine aw2 ?_ | refine aw3 ?_ | refine aw4 ?_ | refine aw5 ?_ | refine aw6 ?_ | refine aw7 ?_ | refine aw8 ?_); conv => whnf) | ((first | refine bT ?_ | refine bF ?_); conv => whnf) | (refine AIx.mapF ari (fun hlt => ?_); conv => whnf) | (refine ACall.pure (toEntry_p _) rfl ?_; conv => whnf) | (refine AIx.at k _ rfl (cpG_at DEntry.ds [dI 0, dI 0, dI 0, dI 0, dI 0, dI 0, dI 0, dI 0, dI 0] l k hlt) ?_; conv => whnf) | (refine AIx.at k _ rfl (cpG_at DEntry.ds [dI 0, dI 0, dI 0, dI 0, dI 0, dI 0, dI 0, dI 0, dI 0] l k ari) ?_; conv => whnf) | (refine AW.i64 ari ari ?_; conv => whnf) | (exact rr) | (refine And.intro rfl ?_; conv => whnf) | (refine AB.mk (fun h => ?_) (fun h => ?_) <;> (conv => whnf)))
    · refine ANext.mk ⟨k + 1, hlt, by omega, ?_, SubO.cons rfl (SubO.cons (congrArg some (congrArg (AO.row 301 9) (cpG_set DEntry.ds [dI 0, dI 0, dI 0, dI 0, dI 0, dI 0, dI 0, dI 0, dI 0] l k hlt))) SubO.nil)⟩
      exact hds
    · have : k = l.length := ari
      subst this
      exact ⟨_, _, l.map DEntry.ds, Nat.le_refl _, by rw [cpG_end]; exact Fam.blank (lo := S.w0.heap.size) (hi := S.w0.heap.size) (by simp [AD.isBl, DEntry.ds]), by rw [cpG_end], (fun y hy => by obtain ⟨a, _, rfl⟩ := List.mem_map.1 hy; rfl), rfl⟩
theorem toBook_f (x : DBook) (hs : DBook.small 1048576 x) : FCall av 119 [.agg x.ds] (.agg x.ds) := by
  refine fcall_of av_ok Tryz.func119 rfl Tryz.call119 Tryz.ntmps119 (congrArg Array.toList Tryz.results119) fun S => ?_; conv => whnf
  repeat' (first | (refine aw0 ?_) | ((first | refine aw1 ?_ | refine aw2 ?_ | refine aw3 ?_ | refine aw4 ?_ | refine aw5 ?_ | refine aw6 ?_ | refine aw7 ?_ | refine aw8 ?_); conv => whnf) | (refine ACall.fresh (toEntryS_f x.entries hs) rfl rfl fun R1 l1 h1 a1 b1 F1 => ?_; conv => whnf) | (exact rr) | (refine And.intro rfl ?_; conv => whnf) | (refine AB.mk (fun h => ?_) (fun h => ?_) <;> (conv => whnf)))
  exact ⟨_, _, _, (by omega : S.w0.heap.size ≤ S.w0.heap.size), (Fam.app (Fam.blank (lo := S.w0.heap.size) (hi := S.w0.heap.size) (ds := [dI x.base, dI x.time]) rfl) F1 (by omega) (by omega) (by omega)), rfl⟩
theorem toAck_p (x : DAck) : PCall av 196 [.agg x.ds] (.val (.agg x.ds)) := by
  refine pcall_of av_ok Tryz.func196 rfl Tryz.call196 Tryz.ntmps196 (congrArg Array.toList Tryz.results196) fun S => ?_; conv => whnf
  repeat' (first | (refine aw0 ?_) | ((first | refine aw1 ?_ | refine aw2 ?_ | refine aw3 ?_ | refine aw4 ?_ | refine aw5 ?_ | refine aw6 ?_ | refine aw7 ?_ | refine aw8 ?_); conv => whnf) | (exact rr) | (refine And.intro rfl ?_; conv => whnf) | (refine AB.mk (fun h => ?_) (fun h => ?_) <;> (conv => whnf)))
  all_goals rfl
theorem toAckS_f (l : (List DAck)) (hs : l.length ≤ 1048576) : FCall av 121 [.one (.sl (l.map DAck.ds))] (.one (.sl (l.map DAck.ds))) := by
  have hl : l.length ≤ 1048576 := hs
  refine fcall_of av_ok Tryz.func121 rfl Tryz.call121 Tryz.ntmps121 (congrArg Array.toList Tryz.results121) fun S => ?_; conv => whnf
  repeat' (first | (refine aw0 ?_) | ((first | refine aw1 ?_ | refine aw2 ?_ | refine aw3 ?_ | refine aw4 ?_ | refine aw5 ?_ | refine aw6 ?_ | refine aw7 ?_ | refine aw8 ?_); conv => whnf) | ((first | refine bT ?_ | refine bF ?_); conv => whnf) | (refine ⟨l.length, by simp, by simp, (show 32 * l.length ≤ _ by omega), by omega, ?_⟩; conv => whnf) | (exact rr) | (refine And.intro rfl ?_; conv => whnf) | (refine AB.mk (fun h => ?_) (fun h => ?_) <;> (conv => whnf)))
  refine AWP.loopS (fun k : Nat => k ≤ l.length) (7 :: [4, 8, 9, 10, 11, 12, 13, 14, 15, 16, 17, 18, 19, 20, 21]) (fun k => [(3, .one (.own 7)), (4, vI .i64 (k : Int))]) (fun k => [(9997, markO S.w0.heap.size S.w0.heap.size), (7, .row 262 4 (cpG DAck.ds [dI 0, dI 0, dI 0, dI 0] l k))]) (fun k => l.length - k) 0 (by omega) ?_ (SubO.cons rfl (SubO.cons (congrArg some (congrArg (AO.row 262 4) (cpG_zero DAck.ds [dI 0, dI 0, dI 0, dI 0] l).symm)) SubO.nil)) (fun k hR => ?_) <;> (conv => whnf)
  · exact whd
  · repeat' (first | (refine aw0 ?_) | ((first | refine aw1 ?_ | refine aw2 ?_ | refine aw3 ?_ | refine aw4 ?_ | refine aw5 ?_ | refine aw6 ?_ | refine aw7 ?_ | refine aw8 ?_); conv => whnf) | ((first | refine bT ?_ | refine bF ?_); conv => whnf) | (refine AIx.mapF ari (fun hlt => ?_); conv => whnf) | (refine ACall.pure (toAck_p _) rfl ?_; conv => whnf) | (refine AIx.at k _ rfl (cpG_at DAck.ds [dI 0, dI 0, dI 0, dI 0] l k hlt) ?_; conv => whnf) | (refine AIx.at k _ rfl (cpG_at DAck.ds [dI 0, dI 0, dI 0, dI 0] l k ari) ?_; conv => whnf) | (refine AW.i64 ari ari ?_; conv => whnf) | (exact rr) | (refine And.intro rfl ?_; conv => whnf) | (refine AB.mk (fun h => ?_) (fun h => ?_) <;> (conv => whnf)))
    · refine ANext.mk ⟨k + 1, hlt, by omega, ?_, SubO.cons rfl (SubO.cons (congrArg some (congrArg (AO.row 262 4) (cpG_set DAck.ds [dI 0, dI 0, dI 0, dI 0] l k hlt))) SubO.nil)⟩
      exact hds
    · have : k = l.length := ari
      subst this
      exact ⟨_, _, l.map DAck.ds, Nat.le_refl _, by rw [cpG_end]; exact Fam.blank (lo := S.w0.heap.size) (hi := S.w0.heap.size) (by simp [AD.isBl, DAck.ds]), by rw [cpG_end], (fun y hy => by obtain ⟨a, _, rfl⟩ := List.mem_map.1 hy; rfl), rfl⟩
theorem toLogNode_f (x : DLogNode) (hs : DLogNode.small 1048576 x) : FCall av 36 [.agg x.ds] (.agg x.ds) := by
  refine fcall_of av_ok Tryz.func36 rfl Tryz.call36 Tryz.ntmps36 (congrArg Array.toList Tryz.results36) fun S => ?_; conv => whnf
  repeat' (first | (refine aw0 ?_) | ((first | refine aw1 ?_ | refine aw2 ?_ | refine aw3 ?_ | refine aw4 ?_ | refine aw5 ?_ | refine aw6 ?_ | refine aw7 ?_ | refine aw8 ?_); conv => whnf) | (refine ACall.fresh (toTwo_f x.two hs.1) rfl rfl fun R1 l1 h1 a1 b1 F1 => ?_; conv => whnf) | (refine ACall.fresh (toHead_f x.head hs.2.1) rfl rfl fun R2 l2 h2 a2 b2 F2 => ?_; conv => whnf) | (refine ACall.fresh (toHead_f x.nxt hs.2.2.1) rfl rfl fun R3 l3 h3 a3 b3 F3 => ?_; conv => whnf) | (refine ACall.fresh (toBook_f x.book hs.2.2.2.1) rfl rfl fun R4 l4 h4 a4 b4 F4 => ?_; conv => whnf) | (refine ACall.fresh (toMarkS_f x.seen hs.2.2.2.2.1) rfl rfl fun R5 l5 h5 a5 b5 F5 => ?_; conv => whnf) | (refine ACall.fresh (toAckS_f x.owe hs.2.2.2.2.2) rfl rfl fun R6 l6 h6 a6 b6 F6 => ?_; conv => whnf) | (exact rr) | (refine And.intro rfl ?_; conv => whnf) | (refine AB.mk (fun h => ?_) (fun h => ?_) <;> (conv => whnf)))
  exact ⟨_, _, _, (by omega : S.w0.heap.size ≤ l1), (Fam.app (Fam.app (Fam.app (Fam.app (Fam.app (Fam.app (Fam.app F1 F2 (by omega) (by omega) (by omega)) F3 (by omega) (by omega) (by omega)) (Fam.blank (lo := h3) (hi := h3) (ds := [dB x.more]) rfl) (by omega) (by omega) (by omega)) F4 (by omega) (by omega) (by omega)) F5 (by omega) (by omega) (by omega)) (Fam.blank (lo := h5) (hi := h5) (ds := [dI x.durable]) rfl) (by omega) (by omega) (by omega)) F6 (by omega) (by omega) (by omega)), rfl⟩
theorem toPair_p (x : DPair) : PCall av 265 [.agg x.ds] (.val (.agg x.ds)) := by
  refine pcall_of av_ok Tryz.func265 rfl Tryz.call265 Tryz.ntmps265 (congrArg Array.toList Tryz.results265) fun S => ?_; conv => whnf
  repeat' (first | (refine aw0 ?_) | ((first | refine aw1 ?_ | refine aw2 ?_ | refine aw3 ?_ | refine aw4 ?_ | refine aw5 ?_ | refine aw6 ?_ | refine aw7 ?_ | refine aw8 ?_); conv => whnf) | (exact rr) | (refine And.intro rfl ?_; conv => whnf) | (refine AB.mk (fun h => ?_) (fun h => ?_) <;> (conv => whnf)))
  all_goals rfl
theorem toPairS_f (l : (List DPair)) (hs : l.length ≤ 1048576) : FCall av 199 [.one (.sl (l.map DPair.ds))] (.one (.sl (l.map DPair.ds))) := by
  have hl : l.length ≤ 1048576 := hs
  refine fcall_of av_ok Tryz.func199 rfl Tryz.call199 Tryz.ntmps199 (congrArg Array.toList Tryz.results199) fun S => ?_; conv => whnf
  repeat' (first | (refine aw0 ?_) | ((first | refine aw1 ?_ | refine aw2 ?_ | refine aw3 ?_ | refine aw4 ?_ | refine aw5 ?_ | refine aw6 ?_ | refine aw7 ?_ | refine aw8 ?_); conv => whnf) | ((first | refine bT ?_ | refine bF ?_); conv => whnf) | (refine ⟨l.length, by simp, by simp, (show 16 * l.length ≤ _ by omega), by omega, ?_⟩; conv => whnf) | (exact rr) | (refine And.intro rfl ?_; conv => whnf) | (refine AB.mk (fun h => ?_) (fun h => ?_) <;> (conv => whnf)))
  refine AWP.loopS (fun k : Nat => k ≤ l.length) (7 :: [4, 8, 9, 10, 11, 12, 13, 14, 15, 16, 17, 18, 19, 20, 21]) (fun k => [(3, .one (.own 7)), (4, vI .i64 (k : Int))]) (fun k => [(9997, markO S.w0.heap.size S.w0.heap.size), (7, .row 321 2 (cpG DPair.ds [dI 0, dI 0] l k))]) (fun k => l.length - k) 0 (by omega) ?_ (SubO.cons rfl (SubO.cons (congrArg some (congrArg (AO.row 321 2) (cpG_zero DPair.ds [dI 0, dI 0] l).symm)) SubO.nil)) (fun k hR => ?_) <;> (conv => whnf)
  · exact whd
  · repeat' (first | (refine aw0 ?_) | ((first | refine aw1 ?_ | refine aw2 ?_ | refine aw3 ?_ | refine aw4 ?_ | refine aw5 ?_ | refine aw6 ?_ | refine aw7 ?_ | refine aw8 ?_); conv => whnf) | ((first | refine bT ?_ | refine bF ?_); conv => whnf) | (refine AIx.mapF ari (fun hlt => ?_); conv => whnf) | (refine ACall.pure (toPair_p _) rfl ?_; conv => whnf) | (refine AIx.at k _ rfl (cpG_at DPair.ds [dI 0, dI 0] l k hlt) ?_; conv => whnf) | (refine AIx.at k _ rfl (cpG_at DPair.ds [dI 0, dI 0] l k ari) ?_; conv => whnf) | (refine AW.i64 ari ari ?_; conv => whnf) | (exact rr) | (refine And.intro rfl ?_; conv => whnf) | (refine AB.mk (fun h => ?_) (fun h => ?_) <;> (conv => whnf)))
    · refine ANext.mk ⟨k + 1, hlt, by omega, ?_, SubO.cons rfl (SubO.cons (congrArg some (congrArg (AO.row 321 2) (cpG_set DPair.ds [dI 0, dI 0] l k hlt))) SubO.nil)⟩
      exact hds
    · have : k = l.length := ari
      subst this
      exact ⟨_, _, l.map DPair.ds, Nat.le_refl _, by rw [cpG_end]; exact Fam.blank (lo := S.w0.heap.size) (hi := S.w0.heap.size) (by simp [AD.isBl, DPair.ds]), by rw [cpG_end], (fun y hy => by obtain ⟨a, _, rfl⟩ := List.mem_map.1 hy; rfl), rfl⟩
theorem toJob_p (x : DJob) : PCall av 266 [.agg x.ds] (.val (.agg x.ds)) := by
  refine pcall_of av_ok Tryz.func266 rfl Tryz.call266 Tryz.ntmps266 (congrArg Array.toList Tryz.results266) fun S => ?_; conv => whnf
  repeat' (first | (refine aw0 ?_) | ((first | refine aw1 ?_ | refine aw2 ?_ | refine aw3 ?_ | refine aw4 ?_ | refine aw5 ?_ | refine aw6 ?_ | refine aw7 ?_ | refine aw8 ?_); conv => whnf) | (exact rr) | (refine And.intro rfl ?_; conv => whnf) | (refine AB.mk (fun h => ?_) (fun h => ?_) <;> (conv => whnf)))
  all_goals rfl
theorem toJobS_f (l : (List DJob)) (hs : l.length ≤ 1048576) : FCall av 200 [.one (.sl (l.map DJob.ds))] (.one (.sl (l.map DJob.ds))) := by
  have hl : l.length ≤ 1048576 := hs
  refine fcall_of av_ok Tryz.func200 rfl Tryz.call200 Tryz.ntmps200 (congrArg Array.toList Tryz.results200) fun S => ?_; conv => whnf
  repeat' (first | (refine aw0 ?_) | ((first | refine aw1 ?_ | refine aw2 ?_ | refine aw3 ?_ | refine aw4 ?_ | refine aw5 ?_ | refine aw6 ?_ | refine aw7 ?_ | refine aw8 ?_); conv => whnf) | ((first | refine bT ?_ | refine bF ?_); conv => whnf) | (refine ⟨l.length, by simp, by simp, (show 40 * l.length ≤ _ by omega), by omega, ?_⟩; conv => whnf) | (exact rr) | (refine And.intro rfl ?_; conv => whnf) | (refine AB.mk (fun h => ?_) (fun h => ?_) <;> (conv => whnf)))
  refine AWP.loopS (fun k : Nat => k ≤ l.length) (7 :: [4, 8, 9, 10, 11, 12, 13, 14, 15, 16, 17, 18, 19, 20, 21]) (fun k => [(3, .one (.own 7)), (4, vI .i64 (k : Int))]) (fun k => [(9997, markO S.w0.heap.size S.w0.heap.size), (7, .row 168 5 (cpG DJob.ds [dI 0, dI 0, dI 0, dI 0, dI 0] l k))]) (fun k => l.length - k) 0 (by omega) ?_ (SubO.cons rfl (SubO.cons (congrArg some (congrArg (AO.row 168 5) (cpG_zero DJob.ds [dI 0, dI 0, dI 0, dI 0, dI 0] l).symm)) SubO.nil)) (fun k hR => ?_) <;> (conv => whnf)
  · exact whd
  · repeat' (first | (refine aw0 ?_) | ((first | refine aw1 ?_ | refine aw2 ?_ | refine aw3 ?_ | refine aw4 ?_ | refine aw5 ?_ | refine aw6 ?_ | refine aw7 ?_ | refine aw8 ?_); conv => whnf) | ((first | refine bT ?_ | refine bF ?_); conv => whnf) | (refine AIx.mapF ari (fun hlt => ?_); conv => whnf) | (refine ACall.pure (toJob_p _) rfl ?_; conv => whnf) | (refine AIx.at k _ rfl (cpG_at DJob.ds [dI 0, dI 0, dI 0, dI 0, dI 0] l k hlt) ?_; conv => whnf) | (refine AIx.at k _ rfl (cpG_at DJob.ds [dI 0, dI 0, dI 0, dI 0, dI 0] l k ari) ?_; conv => whnf) | (refine AW.i64 ari ari ?_; conv => whnf) | (exact rr) | (refine And.intro rfl ?_; conv => whnf) | (refine AB.mk (fun h => ?_) (fun h => ?_) <;> (conv => whnf)))
    · refine ANext.mk ⟨k + 1, hlt, by omega, ?_, SubO.cons rfl (SubO.cons (congrArg some (congrArg (AO.row 168 5) (cpG_set DJob.ds [dI 0, dI 0, dI 0, dI 0, dI 0] l k hlt))) SubO.nil)⟩
      exact hds
    · have : k = l.length := ari
      subst this
      exact ⟨_, _, l.map DJob.ds, Nat.le_refl _, by rw [cpG_end]; exact Fam.blank (lo := S.w0.heap.size) (hi := S.w0.heap.size) (by simp [AD.isBl, DJob.ds]), by rw [cpG_end], (fun y hy => by obtain ⟨a, _, rfl⟩ := List.mem_map.1 hy; rfl), rfl⟩
theorem toLease_p (x : DLease) : PCall av 201 [.agg x.ds] (.val (.agg x.ds)) := by
  refine pcall_of av_ok Tryz.func201 rfl Tryz.call201 Tryz.ntmps201 (congrArg Array.toList Tryz.results201) fun S => ?_; conv => whnf
  repeat' (first | (refine aw0 ?_) | ((first | refine aw1 ?_ | refine aw2 ?_ | refine aw3 ?_ | refine aw4 ?_ | refine aw5 ?_ | refine aw6 ?_ | refine aw7 ?_ | refine aw8 ?_); conv => whnf) | (exact rr) | (refine And.intro rfl ?_; conv => whnf) | (refine AB.mk (fun h => ?_) (fun h => ?_) <;> (conv => whnf)))
  all_goals rfl
theorem toState_f (x : DState) (hs : DState.small 1048576 x) : FCall av 123 [.agg x.ds] (.agg x.ds) := by
  refine fcall_of av_ok Tryz.func123 rfl Tryz.call123 Tryz.ntmps123 (congrArg Array.toList Tryz.results123) fun S => ?_; conv => whnf
  repeat' (first | (refine aw0 ?_) | ((first | refine aw1 ?_ | refine aw2 ?_ | refine aw3 ?_ | refine aw4 ?_ | refine aw5 ?_ | refine aw6 ?_ | refine aw7 ?_ | refine aw8 ?_); conv => whnf) | (refine ACall.pure (toLease_p x.lease) rfl ?_; conv => whnf) | (refine ACall.fresh (toPairS_f x.pairs hs.1) rfl rfl fun R1 l1 h1 a1 b1 F1 => ?_; conv => whnf) | (refine ACall.fresh (toJobS_f x.jobs hs.2) rfl rfl fun R2 l2 h2 a2 b2 F2 => ?_; conv => whnf) | (exact rr) | (refine And.intro rfl ?_; conv => whnf) | (refine AB.mk (fun h => ?_) (fun h => ?_) <;> (conv => whnf)))
  exact ⟨_, _, _, (by omega : S.w0.heap.size ≤ S.w0.heap.size), (Fam.app (Fam.app (Fam.app (Fam.blank (lo := S.w0.heap.size) (hi := S.w0.heap.size) (ds := [dI x.index, dI x.time]) rfl) F1 (by omega) (by omega) (by omega)) F2 (by omega) (by omega) (by omega)) (Fam.blank (lo := h2) (hi := h2) (ds := [dI x.lease.holder, dI x.lease.epoch, dI x.lease.til]) rfl) (by omega) (by omega) (by omega)), rfl⟩
theorem toStore_f (x : DStore) (hs : DStore.small 1048576 x) : FCall av 37 [.agg x.ds] (.agg x.ds) := by
  refine fcall_of av_ok Tryz.func37 rfl Tryz.call37 Tryz.ntmps37 (congrArg Array.toList Tryz.results37) fun S => ?_; conv => whnf
  repeat' (first | (refine aw0 ?_) | ((first | refine aw1 ?_ | refine aw2 ?_ | refine aw3 ?_ | refine aw4 ?_ | refine aw5 ?_ | refine aw6 ?_ | refine aw7 ?_ | refine aw8 ?_); conv => whnf) | (refine ACall.fresh (toDisk_f x.disk hs.1) rfl rfl fun R1 l1 h1 a1 b1 F1 => ?_; conv => whnf) | (refine ACall.fresh (toState_f x.state hs.2) rfl rfl fun R2 l2 h2 a2 b2 F2 => ?_; conv => whnf) | (exact rr) | (refine And.intro rfl ?_; conv => whnf) | (refine AB.mk (fun h => ?_) (fun h => ?_) <;> (conv => whnf)))
  exact ⟨_, _, _, (by omega : S.w0.heap.size ≤ l1), (Fam.app (Fam.app F1 F2 (by omega) (by omega) (by omega)) (Fam.blank (lo := h2) (hi := h2) (ds := [dI x.num, dI x.last, dI x.busy]) rfl) (by omega) (by omega) (by omega)), rfl⟩
theorem toDue_p (x : DDue) : PCall av 316 [.agg x.ds] (.val (.agg x.ds)) := by
  refine pcall_of av_ok Tryz.func316 rfl Tryz.call316 Tryz.ntmps316 (congrArg Array.toList Tryz.results316) fun S => ?_; conv => whnf
  repeat' (first | (refine aw0 ?_) | ((first | refine aw1 ?_ | refine aw2 ?_ | refine aw3 ?_ | refine aw4 ?_ | refine aw5 ?_ | refine aw6 ?_ | refine aw7 ?_ | refine aw8 ?_); conv => whnf) | (exact rr) | (refine And.intro rfl ?_; conv => whnf) | (refine AB.mk (fun h => ?_) (fun h => ?_) <;> (conv => whnf)))
  all_goals rfl
theorem toDueS_f (l : (List DDue)) (hs : l.length ≤ 1048576) : FCall av 267 [.one (.sl (l.map DDue.ds))] (.one (.sl (l.map DDue.ds))) := by
  have hl : l.length ≤ 1048576 := hs
  refine fcall_of av_ok Tryz.func267 rfl Tryz.call267 Tryz.ntmps267 (congrArg Array.toList Tryz.results267) fun S => ?_; conv => whnf
  repeat' (first | (refine aw0 ?_) | ((first | refine aw1 ?_ | refine aw2 ?_ | refine aw3 ?_ | refine aw4 ?_ | refine aw5 ?_ | refine aw6 ?_ | refine aw7 ?_ | refine aw8 ?_); conv => whnf) | ((first | refine bT ?_ | refine bF ?_); conv => whnf) | (refine ⟨l.length, by simp, by simp, (show 16 * l.length ≤ _ by omega), by omega, ?_⟩; conv => whnf) | (exact rr) | (refine And.intro rfl ?_; conv => whnf) | (refine AB.mk (fun h => ?_) (fun h => ?_) <;> (conv => whnf)))
  refine AWP.loopS (fun k : Nat => k ≤ l.length) (7 :: [4, 8, 9, 10, 11, 12, 13, 14, 15, 16, 17, 18, 19, 20, 21]) (fun k => [(3, .one (.own 7)), (4, vI .i64 (k : Int))]) (fun k => [(9997, markO S.w0.heap.size S.w0.heap.size), (7, .row 233 2 (cpG DDue.ds [dI 0, dI 0] l k))]) (fun k => l.length - k) 0 (by omega) ?_ (SubO.cons rfl (SubO.cons (congrArg some (congrArg (AO.row 233 2) (cpG_zero DDue.ds [dI 0, dI 0] l).symm)) SubO.nil)) (fun k hR => ?_) <;> (conv => whnf)
  · exact whd
  · repeat' (first | (refine aw0 ?_) | ((first | refine aw1 ?_ | refine aw2 ?_ | refine aw3 ?_ | refine aw4 ?_ | refine aw5 ?_ | refine aw6 ?_ | refine aw7 ?_ | refine aw8 ?_); conv => whnf) | ((first | refine bT ?_ | refine bF ?_); conv => whnf) | (refine AIx.mapF ari (fun hlt => ?_); conv => whnf) | (refine ACall.pure (toDue_p _) rfl ?_; conv => whnf) | (refine AIx.at k _ rfl (cpG_at DDue.ds [dI 0, dI 0] l k hlt) ?_; conv => whnf) | (refine AIx.at k _ rfl (cpG_at DDue.ds [dI 0, dI 0] l k ari) ?_; conv => whnf) | (refine AW.i64 ari ari ?_; conv => whnf) | (exact rr) | (refine And.intro rfl ?_; conv => whnf) | (refine AB.mk (fun h => ?_) (fun h => ?_) <;> (conv => whnf)))
    · refine ANext.mk ⟨k + 1, hlt, by omega, ?_, SubO.cons rfl (SubO.cons (congrArg some (congrArg (AO.row 233 2) (cpG_set DDue.ds [dI 0, dI 0] l k hlt))) SubO.nil)⟩
      exact hds
    · have : k = l.length := ari
      subst this
      exact ⟨_, _, l.map DDue.ds, Nat.le_refl _, by rw [cpG_end]; exact Fam.blank (lo := S.w0.heap.size) (hi := S.w0.heap.size) (by simp [AD.isBl, DDue.ds]), by rw [cpG_end], (fun y hy => by obtain ⟨a, _, rfl⟩ := List.mem_map.1 hy; rfl), rfl⟩
theorem toJobs_f (x : DJobs) (hs : DJobs.small 1048576 x) : FCall av 202 [.agg x.ds] (.agg x.ds) := by
  refine fcall_of av_ok Tryz.func202 rfl Tryz.call202 Tryz.ntmps202 (congrArg Array.toList Tryz.results202) fun S => ?_; conv => whnf
  repeat' (first | (refine aw0 ?_) | ((first | refine aw1 ?_ | refine aw2 ?_ | refine aw3 ?_ | refine aw4 ?_ | refine aw5 ?_ | refine aw6 ?_ | refine aw7 ?_ | refine aw8 ?_); conv => whnf) | (refine ACall.fresh (toDueS_f x.opens hs) rfl rfl fun R1 l1 h1 a1 b1 F1 => ?_; conv => whnf) | (exact rr) | (refine And.intro rfl ?_; conv => whnf) | (refine AB.mk (fun h => ?_) (fun h => ?_) <;> (conv => whnf)))
  exact ⟨_, _, _, (by omega : S.w0.heap.size ≤ S.w0.heap.size), (Fam.app (Fam.blank (lo := S.w0.heap.size) (hi := S.w0.heap.size) (ds := [dI x.index, dI x.time, dI x.holder, dI x.epoch, dI x.til]) rfl) F1 (by omega) (by omega) (by omega)), rfl⟩
theorem toView_f (x : DView) (hs : DView.small 1048576 x) : FCall av 124 [.agg x.ds] (.agg x.ds) := by
  refine fcall_of av_ok Tryz.func124 rfl Tryz.call124 Tryz.ntmps124 (congrArg Array.toList Tryz.results124) fun S => ?_; conv => whnf
  repeat' (first | (refine aw0 ?_) | ((first | refine aw1 ?_ | refine aw2 ?_ | refine aw3 ?_ | refine aw4 ?_ | refine aw5 ?_ | refine aw6 ?_ | refine aw7 ?_ | refine aw8 ?_); conv => whnf) | (refine ACall.fresh (toJobs_f x.jobs hs) rfl rfl fun R1 l1 h1 a1 b1 F1 => ?_; conv => whnf) | (exact rr) | (refine And.intro rfl ?_; conv => whnf) | (refine AB.mk (fun h => ?_) (fun h => ?_) <;> (conv => whnf)))
  exact ⟨_, _, _, (by omega : S.w0.heap.size ≤ l1), F1, rfl⟩
theorem toSched_f (x : DSched) (hs : DSched.small 1048576 x) : FCall av 38 [.agg x.ds] (.agg x.ds) := by
  refine fcall_of av_ok Tryz.func38 rfl Tryz.call38 Tryz.ntmps38 (congrArg Array.toList Tryz.results38) fun S => ?_; conv => whnf
  repeat' (first | (refine aw0 ?_) | ((first | refine aw1 ?_ | refine aw2 ?_ | refine aw3 ?_ | refine aw4 ?_ | refine aw5 ?_ | refine aw6 ?_ | refine aw7 ?_ | refine aw8 ?_); conv => whnf) | (refine ACall.pure (toOp_p x.op) rfl ?_; conv => whnf) | (refine ACall.fresh (toView_f x.view hs) rfl rfl fun R1 l1 h1 a1 b1 F1 => ?_; conv => whnf) | (exact rr) | (refine And.intro rfl ?_; conv => whnf) | (refine AB.mk (fun h => ?_) (fun h => ?_) <;> (conv => whnf)))
  exact ⟨_, _, _, (by omega : S.w0.heap.size ≤ S.w0.heap.size), (Fam.app (Fam.app (Fam.blank (lo := S.w0.heap.size) (hi := S.w0.heap.size) (ds := [dI x.id, dI x.seq]) rfl) F1 (by omega) (by omega) (by omega)) (Fam.blank (lo := h1) (hi := h1) (ds := [dB x.busy, dI x.op.kind, dI x.op.a, dI x.op.b, dI x.op.c, dI x.op.d, dI x.index]) rfl) (by omega) (by omega) (by omega)), rfl⟩
theorem toWant_p (x : DWant) : PCall av 203 [.agg x.ds] (.val (.agg x.ds)) := by
  refine pcall_of av_ok Tryz.func203 rfl Tryz.call203 Tryz.ntmps203 (congrArg Array.toList Tryz.results203) fun S => ?_; conv => whnf
  repeat' (first | (refine aw0 ?_) | ((first | refine aw1 ?_ | refine aw2 ?_ | refine aw3 ?_ | refine aw4 ?_ | refine aw5 ?_ | refine aw6 ?_ | refine aw7 ?_ | refine aw8 ?_); conv => whnf) | (refine ACall.pure (toOp_p x.op) rfl ?_; conv => whnf) | (exact rr) | (refine And.intro rfl ?_; conv => whnf) | (refine AB.mk (fun h => ?_) (fun h => ?_) <;> (conv => whnf)))
  all_goals rfl
theorem toWantS_f (l : (List DWant)) (hs : l.length ≤ 1048576) : FCall av 126 [.one (.sl (l.map DWant.ds))] (.one (.sl (l.map DWant.ds))) := by
  have hl : l.length ≤ 1048576 := hs
  refine fcall_of av_ok Tryz.func126 rfl Tryz.call126 Tryz.ntmps126 (congrArg Array.toList Tryz.results126) fun S => ?_; conv => whnf
  repeat' (first | (refine aw0 ?_) | ((first | refine aw1 ?_ | refine aw2 ?_ | refine aw3 ?_ | refine aw4 ?_ | refine aw5 ?_ | refine aw6 ?_ | refine aw7 ?_ | refine aw8 ?_); conv => whnf) | ((first | refine bT ?_ | refine bF ?_); conv => whnf) | (refine ⟨l.length, by simp, by simp, (show 56 * l.length ≤ _ by omega), by omega, ?_⟩; conv => whnf) | (exact rr) | (refine And.intro rfl ?_; conv => whnf) | (refine AB.mk (fun h => ?_) (fun h => ?_) <;> (conv => whnf)))
  refine AWP.loopS (fun k : Nat => k ≤ l.length) (7 :: [4, 8, 9, 10, 11, 12, 13, 14, 15, 16, 17, 18, 19, 20, 21]) (fun k => [(3, .one (.own 7)), (4, vI .i64 (k : Int))]) (fun k => [(9997, markO S.w0.heap.size S.w0.heap.size), (7, .row 248 7 (cpG DWant.ds [dI 0, dI 0, dI 0, dI 0, dI 0, dI 0, dI 0] l k))]) (fun k => l.length - k) 0 (by omega) ?_ (SubO.cons rfl (SubO.cons (congrArg some (congrArg (AO.row 248 7) (cpG_zero DWant.ds [dI 0, dI 0, dI 0, dI 0, dI 0, dI 0, dI 0] l).symm)) SubO.nil)) (fun k hR => ?_) <;> (conv => whnf)
  · exact whd
  · repeat' (first | (refine aw0 ?_) | ((first | refine aw1 ?_ | refine aw2 ?_ | refine aw3 ?_ | refine aw4 ?_ | refine aw5 ?_ | refine aw6 ?_ | refine aw7 ?_ | refine aw8 ?_); conv => whnf) | ((first | refine bT ?_ | refine bF ?_); conv => whnf) | (refine AIx.mapF ari (fun hlt => ?_); conv => whnf) | (refine ACall.pure (toWant_p _) rfl ?_; conv => whnf) | (refine AIx.at k _ rfl (cpG_at DWant.ds [dI 0, dI 0, dI 0, dI 0, dI 0, dI 0, dI 0] l k hlt) ?_; conv => whnf) | (refine AIx.at k _ rfl (cpG_at DWant.ds [dI 0, dI 0, dI 0, dI 0, dI 0, dI 0, dI 0] l k ari) ?_; conv => whnf) | (refine AW.i64 ari ari ?_; conv => whnf) | (exact rr) | (refine And.intro rfl ?_; conv => whnf) | (refine AB.mk (fun h => ?_) (fun h => ?_) <;> (conv => whnf)))
    · refine ANext.mk ⟨k + 1, hlt, by omega, ?_, SubO.cons rfl (SubO.cons (congrArg some (congrArg (AO.row 248 7) (cpG_set DWant.ds [dI 0, dI 0, dI 0, dI 0, dI 0, dI 0, dI 0] l k hlt))) SubO.nil)⟩
      exact hds
    · have : k = l.length := ari
      subst this
      exact ⟨_, _, l.map DWant.ds, Nat.le_refl _, by rw [cpG_end]; exact Fam.blank (lo := S.w0.heap.size) (hi := S.w0.heap.size) (by simp [AD.isBl, DWant.ds]), by rw [cpG_end], (fun y hy => by obtain ⟨a, _, rfl⟩ := List.mem_map.1 hy; rfl), rfl⟩
theorem toGot_p (x : DGot) : PCall av 204 [.agg x.ds] (.val (.agg x.ds)) := by
  refine pcall_of av_ok Tryz.func204 rfl Tryz.call204 Tryz.ntmps204 (congrArg Array.toList Tryz.results204) fun S => ?_; conv => whnf
  repeat' (first | (refine aw0 ?_) | ((first | refine aw1 ?_ | refine aw2 ?_ | refine aw3 ?_ | refine aw4 ?_ | refine aw5 ?_ | refine aw6 ?_ | refine aw7 ?_ | refine aw8 ?_); conv => whnf) | (exact rr) | (refine And.intro rfl ?_; conv => whnf) | (refine AB.mk (fun h => ?_) (fun h => ?_) <;> (conv => whnf)))
  all_goals rfl
theorem toGotS_f (l : (List DGot)) (hs : l.length ≤ 1048576) : FCall av 127 [.one (.sl (l.map DGot.ds))] (.one (.sl (l.map DGot.ds))) := by
  have hl : l.length ≤ 1048576 := hs
  refine fcall_of av_ok Tryz.func127 rfl Tryz.call127 Tryz.ntmps127 (congrArg Array.toList Tryz.results127) fun S => ?_; conv => whnf
  repeat' (first | (refine aw0 ?_) | ((first | refine aw1 ?_ | refine aw2 ?_ | refine aw3 ?_ | refine aw4 ?_ | refine aw5 ?_ | refine aw6 ?_ | refine aw7 ?_ | refine aw8 ?_); conv => whnf) | ((first | refine bT ?_ | refine bF ?_); conv => whnf) | (refine ⟨l.length, by simp, by simp, (show 32 * l.length ≤ _ by omega), by omega, ?_⟩; conv => whnf) | (exact rr) | (refine And.intro rfl ?_; conv => whnf) | (refine AB.mk (fun h => ?_) (fun h => ?_) <;> (conv => whnf)))
  refine AWP.loopS (fun k : Nat => k ≤ l.length) (7 :: [4, 8, 9, 10, 11, 12, 13, 14, 15, 16, 17, 18, 19, 20, 21]) (fun k => [(3, .one (.own 7)), (4, vI .i64 (k : Int))]) (fun k => [(9997, markO S.w0.heap.size S.w0.heap.size), (7, .row 251 4 (cpG DGot.ds [dI 0, dI 0, dI 0, dI 0] l k))]) (fun k => l.length - k) 0 (by omega) ?_ (SubO.cons rfl (SubO.cons (congrArg some (congrArg (AO.row 251 4) (cpG_zero DGot.ds [dI 0, dI 0, dI 0, dI 0] l).symm)) SubO.nil)) (fun k hR => ?_) <;> (conv => whnf)
  · exact whd
  · repeat' (first | (refine aw0 ?_) | ((first | refine aw1 ?_ | refine aw2 ?_ | refine aw3 ?_ | refine aw4 ?_ | refine aw5 ?_ | refine aw6 ?_ | refine aw7 ?_ | refine aw8 ?_); conv => whnf) | ((first | refine bT ?_ | refine bF ?_); conv => whnf) | (refine AIx.mapF ari (fun hlt => ?_); conv => whnf) | (refine ACall.pure (toGot_p _) rfl ?_; conv => whnf) | (refine AIx.at k _ rfl (cpG_at DGot.ds [dI 0, dI 0, dI 0, dI 0] l k hlt) ?_; conv => whnf) | (refine AIx.at k _ rfl (cpG_at DGot.ds [dI 0, dI 0, dI 0, dI 0] l k ari) ?_; conv => whnf) | (refine AW.i64 ari ari ?_; conv => whnf) | (exact rr) | (refine And.intro rfl ?_; conv => whnf) | (refine AB.mk (fun h => ?_) (fun h => ?_) <;> (conv => whnf)))
    · refine ANext.mk ⟨k + 1, hlt, by omega, ?_, SubO.cons rfl (SubO.cons (congrArg some (congrArg (AO.row 251 4) (cpG_set DGot.ds [dI 0, dI 0, dI 0, dI 0] l k hlt))) SubO.nil)⟩
      exact hds
    · have : k = l.length := ari
      subst this
      exact ⟨_, _, l.map DGot.ds, Nat.le_refl _, by rw [cpG_end]; exact Fam.blank (lo := S.w0.heap.size) (hi := S.w0.heap.size) (by simp [AD.isBl, DGot.ds]), by rw [cpG_end], (fun y hy => by obtain ⟨a, _, rfl⟩ := List.mem_map.1 hy; rfl), rfl⟩
theorem toClient_f (x : DClient) (hs : DClient.small 1048576 x) : FCall av 39 [.agg x.ds] (.agg x.ds) := by
  refine fcall_of av_ok Tryz.func39 rfl Tryz.call39 Tryz.ntmps39 (congrArg Array.toList Tryz.results39) fun S => ?_; conv => whnf
  repeat' (first | (refine aw0 ?_) | ((first | refine aw1 ?_ | refine aw2 ?_ | refine aw3 ?_ | refine aw4 ?_ | refine aw5 ?_ | refine aw6 ?_ | refine aw7 ?_ | refine aw8 ?_); conv => whnf) | (refine ACall.fresh (toWantS_f x.todo hs.1) rfl rfl fun R1 l1 h1 a1 b1 F1 => ?_; conv => whnf) | (refine ACall.fresh (toGotS_f x.gots hs.2) rfl rfl fun R2 l2 h2 a2 b2 F2 => ?_; conv => whnf) | (exact rr) | (refine And.intro rfl ?_; conv => whnf) | (refine AB.mk (fun h => ?_) (fun h => ?_) <;> (conv => whnf)))
  exact ⟨_, _, _, (by omega : S.w0.heap.size ≤ S.w0.heap.size), (Fam.app (Fam.app (Fam.app (Fam.blank (lo := S.w0.heap.size) (hi := S.w0.heap.size) (ds := [dI x.id]) rfl) F1 (by omega) (by omega) (by omega)) F2 (by omega) (by omega) (by omega)) (Fam.blank (lo := h2) (hi := h2) (ds := [dI x.last]) rfl) (by omega) (by omega) (by omega)), rfl⟩
theorem toMsg_f (x : DMsg) (hs : DMsg.small 1048576 x) : FCall av 205 [.agg x.ds] (.agg x.ds) := by
  refine fcall_of av_ok Tryz.func205 rfl Tryz.call205 Tryz.ntmps205 (congrArg Array.toList Tryz.results205) fun S => ?_; conv => whnf
  repeat' (first | (refine aw0 ?_) | ((first | refine aw1 ?_ | refine aw2 ?_ | refine aw3 ?_ | refine aw4 ?_ | refine aw5 ?_ | refine aw6 ?_ | refine aw7 ?_ | refine aw8 ?_); conv => whnf) | (refine ACall.fresh (toInt64S_f x.row hs) rfl rfl fun R1 l1 h1 a1 b1 F1 => ?_; conv => whnf) | (exact rr) | (refine And.intro rfl ?_; conv => whnf) | (refine AB.mk (fun h => ?_) (fun h => ?_) <;> (conv => whnf)))
  exact ⟨_, _, _, (by omega : S.w0.heap.size ≤ S.w0.heap.size), (Fam.app (Fam.blank (lo := S.w0.heap.size) (hi := S.w0.heap.size) (ds := [dI x.frm, dI x.to_]) rfl) F1 (by omega) (by omega) (by omega)), rfl⟩
theorem toMsgS_f (l : (List DMsg)) (hs : l.length ≤ 1048576 ∧ ∀ y ∈ l, DMsg.small 1048576 y) : FCall av 128 [.one (.sl (l.map DMsg.ds))] (.one (.sl (l.map DMsg.ds))) := by
  have hl : l.length ≤ 1048576 := hs.1
  refine fcall_of av_ok Tryz.func128 rfl Tryz.call128 Tryz.ntmps128 (congrArg Array.toList Tryz.results128) fun S => ?_; conv => whnf
  repeat' (first | (refine aw0 ?_) | ((first | refine aw1 ?_ | refine aw2 ?_ | refine aw3 ?_ | refine aw4 ?_ | refine aw5 ?_ | refine aw6 ?_ | refine aw7 ?_ | refine aw8 ?_); conv => whnf) | ((first | refine bT ?_ | refine bF ?_); conv => whnf) | (refine ⟨l.length, by simp, by simp, (show 40 * l.length ≤ _ by omega), by omega, ?_⟩; conv => whnf) | (exact rr) | (refine And.intro rfl ?_; conv => whnf) | (refine AB.mk (fun h => ?_) (fun h => ?_) <;> (conv => whnf)))
  refine AWP.loopS (fun g : Nat × Nat × List (List AD) => g.1 ≤ l.length ∧ g.2.2.length = g.1 ∧ S.w0.heap.size ≤ g.2.1 ∧ Fam S.w0.heap.size g.2.1 g.2.2.flatten ((l.take g.1).map DMsg.ds).flatten) (7 :: [4, 8, 9, 10, 11, 12, 13, 14, 15, 16, 17, 18, 19, 20, 21]) (fun g => [(3, .one (.own 7)), (4, vI .i64 (g.1 : Int))]) (fun g => [(9997, markO S.w0.heap.size g.2.1), (7, .row 149 3 (g.2.2 ++ List.replicate (l.length - g.1) [dI 0, dI 0, .sl []]))]) (fun g => l.length - g.1) (0, S.w0.heap.size, []) ⟨Nat.zero_le _, rfl, Nat.le_refl _, Fam.blank rfl⟩ ?_ (SubO.cons rfl (SubO.cons rfl SubO.nil)) (fun g hR => ?_) <;> (conv => whnf)
  · exact whd
  · obtain ⟨k, m, cs⟩ := g
    obtain ⟨hk, hcs, hm, hF⟩ := hR
    simp only at hk hcs hm hF
    repeat' (first | (refine aw0 ?_) | ((first | refine aw1 ?_ | refine aw2 ?_ | refine aw3 ?_ | refine aw4 ?_ | refine aw5 ?_ | refine aw6 ?_ | refine aw7 ?_ | refine aw8 ?_); conv => whnf) | ((first | refine bT ?_ | refine bF ?_); conv => whnf) | (refine AIx.mapF ari (fun hlt => ?_); conv => whnf) | (refine ACall.fresh (toMsg_f _ (hs.2 _ (List.getElem_mem hlt))) rfl rfl fun R lo hi a1 a2 F => ?_; conv => whnf) | (refine AIx.at k _ rfl (fz_at _ hcs ari) ?_; conv => whnf) | (refine AW.i64 ari ari ?_; conv => whnf) | (exact rr) | (refine And.intro rfl ?_; conv => whnf) | (refine AB.mk (fun h => ?_) (fun h => ?_) <;> (conv => whnf)))
    · have a1 : m ≤ lo := a1
      refine ANext.mk ⟨(k + 1, hi, cs ++ [opqL R 0 (DMsg.ds l[k])]), ⟨by simp only; omega, by simp [hcs], by simp only; omega, ?_⟩, by simp only; omega, ?_, SubO.cons rfl (SubO.cons (congrArg some (congrArg (AO.row 149 3) (fz_set _ hcs (by omega)))) SubO.nil)⟩
      · simp only
        rw [take_snocW DMsg.ds (by omega)]
        exact hF.flat_set F (by omega) (by omega) (by omega)
      · exact hds
    · have : k = l.length := ari
      subst this
      refine ⟨_, m, l.map DMsg.ds, Nat.le_refl _, ?_, by simp [hcs], (fun y hy => by obtain ⟨a, _, rfl⟩ := List.mem_map.1 hy; rfl), rfl⟩
      simp only [Nat.sub_self, List.replicate_zero, List.append_nil]
      rw [List.take_length] at hF
      exact hF
theorem toLink_p (x : DLink) : PCall av 206 [.agg x.ds] (.val (.agg x.ds)) := by
  refine pcall_of av_ok Tryz.func206 rfl Tryz.call206 Tryz.ntmps206 (congrArg Array.toList Tryz.results206) fun S => ?_; conv => whnf
  repeat' (first | (refine aw0 ?_) | ((first | refine aw1 ?_ | refine aw2 ?_ | refine aw3 ?_ | refine aw4 ?_ | refine aw5 ?_ | refine aw6 ?_ | refine aw7 ?_ | refine aw8 ?_); conv => whnf) | (exact rr) | (refine And.intro rfl ?_; conv => whnf) | (refine AB.mk (fun h => ?_) (fun h => ?_) <;> (conv => whnf)))
  all_goals rfl
theorem toLinkS_f (l : (List DLink)) (hs : l.length ≤ 1048576) : FCall av 129 [.one (.sl (l.map DLink.ds))] (.one (.sl (l.map DLink.ds))) := by
  have hl : l.length ≤ 1048576 := hs
  refine fcall_of av_ok Tryz.func129 rfl Tryz.call129 Tryz.ntmps129 (congrArg Array.toList Tryz.results129) fun S => ?_; conv => whnf
  repeat' (first | (refine aw0 ?_) | ((first | refine aw1 ?_ | refine aw2 ?_ | refine aw3 ?_ | refine aw4 ?_ | refine aw5 ?_ | refine aw6 ?_ | refine aw7 ?_ | refine aw8 ?_); conv => whnf) | ((first | refine bT ?_ | refine bF ?_); conv => whnf) | (refine ⟨l.length, by simp, by simp, (show 16 * l.length ≤ _ by omega), by omega, ?_⟩; conv => whnf) | (exact rr) | (refine And.intro rfl ?_; conv => whnf) | (refine AB.mk (fun h => ?_) (fun h => ?_) <;> (conv => whnf)))
  refine AWP.loopS (fun k : Nat => k ≤ l.length) (7 :: [4, 8, 9, 10, 11, 12, 13, 14, 15, 16, 17, 18, 19, 20, 21]) (fun k => [(3, .one (.own 7)), (4, vI .i64 (k : Int))]) (fun k => [(9997, markO S.w0.heap.size S.w0.heap.size), (7, .row 254 2 (cpG DLink.ds [dI 0, dI 0] l k))]) (fun k => l.length - k) 0 (by omega) ?_ (SubO.cons rfl (SubO.cons (congrArg some (congrArg (AO.row 254 2) (cpG_zero DLink.ds [dI 0, dI 0] l).symm)) SubO.nil)) (fun k hR => ?_) <;> (conv => whnf)
  · exact whd
  · repeat' (first | (refine aw0 ?_) | ((first | refine aw1 ?_ | refine aw2 ?_ | refine aw3 ?_ | refine aw4 ?_ | refine aw5 ?_ | refine aw6 ?_ | refine aw7 ?_ | refine aw8 ?_); conv => whnf) | ((first | refine bT ?_ | refine bF ?_); conv => whnf) | (refine AIx.mapF ari (fun hlt => ?_); conv => whnf) | (refine ACall.pure (toLink_p _) rfl ?_; conv => whnf) | (refine AIx.at k _ rfl (cpG_at DLink.ds [dI 0, dI 0] l k hlt) ?_; conv => whnf) | (refine AIx.at k _ rfl (cpG_at DLink.ds [dI 0, dI 0] l k ari) ?_; conv => whnf) | (refine AW.i64 ari ari ?_; conv => whnf) | (exact rr) | (refine And.intro rfl ?_; conv => whnf) | (refine AB.mk (fun h => ?_) (fun h => ?_) <;> (conv => whnf)))
    · refine ANext.mk ⟨k + 1, hlt, by omega, ?_, SubO.cons rfl (SubO.cons (congrArg some (congrArg (AO.row 254 2) (cpG_set DLink.ds [dI 0, dI 0] l k hlt))) SubO.nil)⟩
      exact hds
    · have : k = l.length := ari
      subst this
      exact ⟨_, _, l.map DLink.ds, Nat.le_refl _, by rw [cpG_end]; exact Fam.blank (lo := S.w0.heap.size) (hi := S.w0.heap.size) (by simp [AD.isBl, DLink.ds]), by rw [cpG_end], (fun y hy => by obtain ⟨a, _, rfl⟩ := List.mem_map.1 hy; rfl), rfl⟩
theorem toNet_f (x : DNet) (hs : DNet.small 1048576 x) : FCall av 40 [.agg x.ds] (.agg x.ds) := by
  refine fcall_of av_ok Tryz.func40 rfl Tryz.call40 Tryz.ntmps40 (congrArg Array.toList Tryz.results40) fun S => ?_; conv => whnf
  repeat' (first | (refine aw0 ?_) | ((first | refine aw1 ?_ | refine aw2 ?_ | refine aw3 ?_ | refine aw4 ?_ | refine aw5 ?_ | refine aw6 ?_ | refine aw7 ?_ | refine aw8 ?_); conv => whnf) | (refine ACall.fresh (toMsgS_f x.flight ⟨hs.1, hs.2.1⟩) rfl rfl fun R1 l1 h1 a1 b1 F1 => ?_; conv => whnf) | (refine ACall.fresh (toLinkS_f x.cuts hs.2.2) rfl rfl fun R2 l2 h2 a2 b2 F2 => ?_; conv => whnf) | (exact rr) | (refine And.intro rfl ?_; conv => whnf) | (refine AB.mk (fun h => ?_) (fun h => ?_) <;> (conv => whnf)))
  exact ⟨_, _, _, (by omega : S.w0.heap.size ≤ l1), (Fam.app F1 F2 (by omega) (by omega) (by omega)), rfl⟩
theorem toBoolS_f (l : (List Bool)) (hs : l.length ≤ 1048576) : FCall av 42 [.one (.sl (l.map eB))] (.one (.sl (l.map eB))) := by
  have hl : l.length ≤ 1048576 := hs
  refine fcall_of av_ok Tryz.func42 rfl Tryz.call42 Tryz.ntmps42 (congrArg Array.toList Tryz.results42) fun S => ?_; conv => whnf
  repeat' (first | (refine aw0 ?_) | ((first | refine aw1 ?_ | refine aw2 ?_ | refine aw3 ?_ | refine aw4 ?_ | refine aw5 ?_ | refine aw6 ?_ | refine aw7 ?_ | refine aw8 ?_); conv => whnf) | ((first | refine bT ?_ | refine bF ?_); conv => whnf) | (refine ⟨l.length, by simp, by simp, (show 1 * l.length ≤ _ by omega), by omega, ?_⟩; conv => whnf) | (exact rr) | (refine And.intro rfl ?_; conv => whnf) | (refine AB.mk (fun h => ?_) (fun h => ?_) <;> (conv => whnf)))
  refine AWP.loopS (fun k : Nat => k ≤ l.length) (7 :: [4, 8, 9, 10, 11, 12, 13, 14, 15, 16, 17, 18, 19, 20]) (fun k => [(3, .one (.own 7)), (4, vI .i64 (k : Int))]) (fun k => [(9997, markO S.w0.heap.size S.w0.heap.size), (7, .row 4 1 (cpG eB [dB false] l k))]) (fun k => l.length - k) 0 (by omega) ?_ (SubO.cons rfl (SubO.cons (congrArg some (congrArg (AO.row 4 1) (cpG_zero eB [dB false] l).symm)) SubO.nil)) (fun k hR => ?_) <;> (conv => whnf)
  · exact whd
  · repeat' (first | (refine aw0 ?_) | ((first | refine aw1 ?_ | refine aw2 ?_ | refine aw3 ?_ | refine aw4 ?_ | refine aw5 ?_ | refine aw6 ?_ | refine aw7 ?_ | refine aw8 ?_); conv => whnf) | ((first | refine bT ?_ | refine bF ?_); conv => whnf) | (refine AIx.mapF ari (fun hlt => ?_); conv => whnf) | (refine AIx.at k _ rfl (cpG_at eB [dB false] l k hlt) ?_; conv => whnf) | (refine AIx.at k _ rfl (cpG_at eB [dB false] l k ari) ?_; conv => whnf) | (refine AW.i64 ari ari ?_; conv => whnf) | (exact rr) | (refine And.intro rfl ?_; conv => whnf) | (refine AB.mk (fun h => ?_) (fun h => ?_) <;> (conv => whnf)))
    · refine ANext.mk ⟨k + 1, hlt, by omega, ?_, SubO.cons rfl (SubO.cons (congrArg some (congrArg (AO.row 4 1) (cpG_set eB [dB false] l k hlt))) SubO.nil)⟩
      exact hds
    · have : k = l.length := ari
      subst this
      exact ⟨_, _, l.map eB, Nat.le_refl _, by rw [cpG_end]; exact Fam.blank (lo := S.w0.heap.size) (hi := S.w0.heap.size) (by simp [AD.isBl, eB]), by rw [cpG_end], (fun y hy => by obtain ⟨a, _, rfl⟩ := List.mem_map.1 hy; rfl), rfl⟩
theorem toWorld_f (x : DWorld) (hs : DWorld.small 1048576 x) : FCall av 11 [.agg x.ds] (.agg x.ds) := by
  refine fcall_of av_ok Tryz.func11 rfl Tryz.call11 Tryz.ntmps11 (congrArg Array.toList Tryz.results11) fun S => ?_; conv => whnf
  repeat' (first | (refine aw0 ?_) | ((first | refine aw1 ?_ | refine aw2 ?_ | refine aw3 ?_ | refine aw4 ?_ | refine aw5 ?_ | refine aw6 ?_ | refine aw7 ?_ | refine aw8 ?_); conv => whnf) | (refine ACall.fresh (toLogNode_f x.log hs.1) rfl rfl fun R1 l1 h1 a1 b1 F1 => ?_; conv => whnf) | (refine ACall.fresh (toStore_f x.store hs.2.1) rfl rfl fun R2 l2 h2 a2 b2 F2 => ?_; conv => whnf) | (refine ACall.fresh (toSched_f x.left hs.2.2.1) rfl rfl fun R3 l3 h3 a3 b3 F3 => ?_; conv => whnf) | (refine ACall.fresh (toSched_f x.right hs.2.2.2.1) rfl rfl fun R4 l4 h4 a4 b4 F4 => ?_; conv => whnf) | (refine ACall.fresh (toClient_f x.ann hs.2.2.2.2.1) rfl rfl fun R5 l5 h5 a5 b5 F5 => ?_; conv => whnf) | (refine ACall.fresh (toClient_f x.bob hs.2.2.2.2.2.1) rfl rfl fun R6 l6 h6 a6 b6 F6 => ?_; conv => whnf) | (refine ACall.fresh (toNet_f x.net hs.2.2.2.2.2.2.1) rfl rfl fun R7 l7 h7 a7 b7 F7 => ?_; conv => whnf) | (refine ACall.fresh (toInt64S_f x.clocks hs.2.2.2.2.2.2.2.1) rfl rfl fun R8 l8 h8 a8 b8 F8 => ?_; conv => whnf) | (refine ACall.fresh (toBoolS_f x.up hs.2.2.2.2.2.2.2.2) rfl rfl fun R9 l9 h9 a9 b9 F9 => ?_; conv => whnf) | (exact rr) | (refine And.intro rfl ?_; conv => whnf) | (refine AB.mk (fun h => ?_) (fun h => ?_) <;> (conv => whnf)))
  exact ⟨_, _, _, (by omega : S.w0.heap.size ≤ l1), (Fam.app (Fam.app (Fam.app (Fam.app (Fam.app (Fam.app (Fam.app (Fam.app F1 F2 (by omega) (by omega) (by omega)) F3 (by omega) (by omega) (by omega)) F4 (by omega) (by omega) (by omega)) F5 (by omega) (by omega) (by omega)) F6 (by omega) (by omega) (by omega)) F7 (by omega) (by omega) (by omega)) F8 (by omega) (by omega) (by omega)) F9 (by omega) (by omega) (by omega)), rfl⟩
theorem toWorld_p (x : DWorld) (hs : DWorld.small 1048576 x) : PCall av 11 [.agg x.ds] (.val (.agg x.ds)) := (toWorld_f x hs).pcall
end Go.Proofs.YtmgcnmdbhahhlaaGreat
namespace Go.Proofs.YtmgcnmdbhahhlaaGreat
open Go.ChangeShapes Go.WideShapes Go.RowKit
def dk_WEq_laws_eqInt64S_6 : List (List Nat) := unqs [0, 0, 66, 12417, 0, 0, 326, 29061, 17663105454471]
def fk_WEq_laws_eqInt64S_6 : List (List Nat) := unps 8 [6486, 6482, 6484, 6493, 566, 242, 404, 1133]
def dk_WEq_laws_eqInt64SS_6 : List (List Nat) := unqs [0, 0, 66, 12417, 0, 0, 326, 29061, 17663105454471, 2564478936555588]
def fk_WEq_laws_eqInt64SS_6 : List (List Nat) := unps 8 [6486, 6482, 6484, 6493, 566, 242, 404, 1133]
def dk_WEq_laws_eqWriteS_6 : List (List Nat) := unqs [0, 0, 66, 12417, 0, 0, 326, 29061, 17663105454471, 2564478936555588]
def fk_WEq_laws_eqWriteS_6 : List (List Nat) := unps 8 [6486, 6482, 6484, 6493, 566, 242, 404, 1133]
def dk_WEq_laws_eqMarkS_6 : List (List Nat) := unqs [0, 0, 66, 12417, 0, 0, 326, 29061, 17663105454471, 2564478936555588]
def fk_WEq_laws_eqMarkS_6 : List (List Nat) := unps 8 [6486, 6482, 6484, 6493, 566, 242, 404, 1133]
def dk_WEq_laws_eqEntryS_6 : List (List Nat) := unqs [0, 0, 66, 12417, 0, 0, 326, 29061, 17663105454471, 2564478936555588]
def fk_WEq_laws_eqEntryS_6 : List (List Nat) := unps 8 [6486, 6482, 6484, 6493, 566, 242, 404, 1133]
def dk_WEq_laws_eqAckS_6 : List (List Nat) := unqs [0, 0, 66, 12417, 0, 0, 326, 29061, 17663105454471, 2564478936555588]
def fk_WEq_laws_eqAckS_6 : List (List Nat) := unps 8 [6486, 6482, 6484, 6493, 566, 242, 404, 1133]
def dk_WEq_laws_eqPairS_6 : List (List Nat) := unqs [0, 0, 66, 12417, 0, 0, 326, 29061, 17663105454471, 2564478936555588]
def fk_WEq_laws_eqPairS_6 : List (List Nat) := unps 8 [6486, 6482, 6484, 6493, 566, 242, 404, 1133]
def dk_WEq_laws_eqJobS_6 : List (List Nat) := unqs [0, 0, 66, 12417, 0, 0, 326, 29061, 17663105454471, 2564478936555588]
def fk_WEq_laws_eqJobS_6 : List (List Nat) := unps 8 [6486, 6482, 6484, 6493, 566, 242, 404, 1133]
def dk_WEq_laws_eqDueS_6 : List (List Nat) := unqs [0, 0, 66, 12417, 0, 0, 326, 29061, 17663105454471, 2564478936555588]
def fk_WEq_laws_eqDueS_6 : List (List Nat) := unps 8 [6486, 6482, 6484, 6493, 566, 242, 404, 1133]
def dk_WEq_laws_eqWantS_6 : List (List Nat) := unqs [0, 0, 66, 12417, 0, 0, 326, 29061, 17663105454471, 2564478936555588]
def fk_WEq_laws_eqWantS_6 : List (List Nat) := unps 8 [6486, 6482, 6484, 6493, 566, 242, 404, 1133]
def dk_WEq_laws_eqGotS_6 : List (List Nat) := unqs [0, 0, 66, 12417, 0, 0, 326, 29061, 17663105454471, 2564478936555588]
def fk_WEq_laws_eqGotS_6 : List (List Nat) := unps 8 [6486, 6482, 6484, 6493, 566, 242, 404, 1133]
def dk_WEq_laws_eqMsgS_6 : List (List Nat) := unqs [0, 0, 66, 12417, 0, 0, 326, 29061, 17663105454471, 2564478936555588]
def fk_WEq_laws_eqMsgS_6 : List (List Nat) := unps 8 [6486, 6482, 6484, 6493, 566, 242, 404, 1133]
def dk_WEq_laws_eqLinkS_6 : List (List Nat) := unqs [0, 0, 66, 12417, 0, 0, 326, 29061, 17663105454471, 2564478936555588]
def fk_WEq_laws_eqLinkS_6 : List (List Nat) := unps 8 [6486, 6482, 6484, 6493, 566, 242, 404, 1133]
def dk_WEq_laws_eqBoolS_6 : List (List Nat) := unqs [0, 0, 66, 12417, 0, 0, 326, 29061, 17663105454471]
def fk_WEq_laws_eqBoolS_6 : List (List Nat) := unps 8 [6486, 6482, 6484, 6493, 566, 242, 404, 1133]

theorem neI (x : Int) : (x != x) = false := by simp
theorem neB (x : Bool) : (!(x == x)) = false := by simp

theorem eqInt64S_p (l : (List Int)) (hs : l.length ≤ 1048576) : PCall av 13 [.one (.sl (l.map eI)), .one (.sl (l.map eI))] (rB true) := by
  have hl : l.length ≤ 1048576 := hs
  refine pcall_of av_ok Tryz.func13 rfl Tryz.call13 Tryz.ntmps13 (congrArg Array.toList Tryz.results13) fun S => ?_; conv => whnf
  have h0 : (((l.map eI).length : Int) != ((l.map eI).length : Int)) = false := neI _
  repeat' (first | (refine aw0 ?_) | ((first | refine aw1 ?_ | refine aw2 ?_ | refine aw3 ?_ | refine aw4 ?_ | refine aw5 ?_ | refine aw6 ?_ | refine aw7 ?_ | refine aw8 ?_); conv => whnf) | ((first | refine bT ?_ | refine bF ?_); conv => whnf) | (exact rr) | (refine And.intro rfl ?_; conv => whnf) | (refine AB.mk (fun h => ?_) (fun h => ?_) <;> (conv => whnf)))
  refine AWP.loopS (fun k : Nat => k ≤ l.length) [4, 5, 11, 12, 13, 14, 15, 16, 17, 18, 19, 20, 21, 22, 23, 24, 25] (fun k => [(5, vI .i64 (k : Int))]) (fun k => []) (fun k => l.length - k) 0 (by omega) ?_ SubO.nil (fun k hR => ?_) <;> (conv => whnf)
  · exact whd
  · repeat' (first | (refine aw0 ?_) | ((first | refine aw1 ?_ | refine aw2 ?_ | refine aw3 ?_ | refine aw4 ?_ | refine aw5 ?_ | refine aw6 ?_ | refine aw7 ?_ | refine aw8 ?_); conv => whnf) | ((first | refine bT ?_ | refine bF ?_); conv => whnf) | (exact rr) | (refine And.intro rfl ?_; conv => whnf) | (refine AB.mk (fun h => ?_) (fun h => ?_) <;> (conv => whnf)))
    · have hlt : k < l.length := ari
      have hne : (l[k] != l[k]) = false := neI _
      (refine AWP.drawK av_ok 6 8 dk_WEq_laws_eqInt64S_6 fk_WEq_laws_eqInt64S_6 (by kernel_rfl) (by kernel_rfl) (by kernel_rfl) rfl ?_; conv => whnf)
      repeat' (first | (refine aw0 ?_) | ((first | refine aw1 ?_ | refine aw2 ?_ | refine aw3 ?_ | refine aw4 ?_ | refine aw5 ?_ | refine aw6 ?_ | refine aw7 ?_ | refine aw8 ?_); conv => whnf) | ((first | refine bT ?_ | refine bF ?_); conv => whnf) | (refine AIx.map hlt ?_; conv => whnf) | (refine AW.i64 ari ari ?_; conv => whnf) | (exact rr) | (refine And.intro rfl ?_; conv => whnf) | (refine AB.mk (fun h => ?_) (fun h => ?_) <;> (conv => whnf)))
      refine ANext.mk ⟨k + 1, hlt, by omega, ?_, SubO.nil⟩
      exact hds
theorem eqInt64SS_p (l : (List (List Int))) (hs : l.length ≤ 1048576 ∧ ∀ y ∈ l, y.length ≤ 1048576) : PCall av 222 [.one (.sl (l.map eIIw)), .one (.sl (l.map eIIw))] (rB true) := by
  have hl : l.length ≤ 1048576 := hs.1
  refine pcall_of av_ok Tryz.func222 rfl Tryz.call222 Tryz.ntmps222 (congrArg Array.toList Tryz.results222) fun S => ?_; conv => whnf
  have h0 : (((l.map eIIw).length : Int) != ((l.map eIIw).length : Int)) = false := neI _
  repeat' (first | (refine aw0 ?_) | ((first | refine aw1 ?_ | refine aw2 ?_ | refine aw3 ?_ | refine aw4 ?_ | refine aw5 ?_ | refine aw6 ?_ | refine aw7 ?_ | refine aw8 ?_); conv => whnf) | ((first | refine bT ?_ | refine bF ?_); conv => whnf) | (exact rr) | (refine And.intro rfl ?_; conv => whnf) | (refine AB.mk (fun h => ?_) (fun h => ?_) <;> (conv => whnf)))
  refine AWP.loopS (fun k : Nat => k ≤ l.length) [4, 5, 11, 12, 13, 14, 15, 16, 17, 18, 19, 20, 21, 22, 23, 24, 25, 26] (fun k => [(5, vI .i64 (k : Int))]) (fun k => []) (fun k => l.length - k) 0 (by omega) ?_ SubO.nil (fun k hR => ?_) <;> (conv => whnf)
  · exact whd
  · repeat' (first | (refine aw0 ?_) | ((first | refine aw1 ?_ | refine aw2 ?_ | refine aw3 ?_ | refine aw4 ?_ | refine aw5 ?_ | refine aw6 ?_ | refine aw7 ?_ | refine aw8 ?_); conv => whnf) | ((first | refine bT ?_ | refine bF ?_); conv => whnf) | (exact rr) | (refine And.intro rfl ?_; conv => whnf) | (refine AB.mk (fun h => ?_) (fun h => ?_) <;> (conv => whnf)))
    · have hlt : k < l.length := ari
      (refine AWP.drawK av_ok 6 8 dk_WEq_laws_eqInt64SS_6 fk_WEq_laws_eqInt64SS_6 (by kernel_rfl) (by kernel_rfl) (by kernel_rfl) rfl ?_; conv => whnf)
      repeat' (first | (refine aw0 ?_) | ((first | refine aw1 ?_ | refine aw2 ?_ | refine aw3 ?_ | refine aw4 ?_ | refine aw5 ?_ | refine aw6 ?_ | refine aw7 ?_ | refine aw8 ?_); conv => whnf) | ((first | refine bT ?_ | refine bF ?_); conv => whnf) | (refine AIx.map hlt ?_; conv => whnf) | (refine ACall.pure (eqInt64S_p _ (hs.2 _ (List.getElem_mem hlt))) rfl ?_; conv => whnf) | (refine AFCall.mk ⟨_, _, eqInt64S_p _ (hs.2 _ (List.getElem_mem hlt)), .inl rfl, ?_⟩; conv => whnf) | (refine AW.i64 ari ari ?_; conv => whnf) | (exact rr) | (refine And.intro rfl ?_; conv => whnf) | (refine AB.mk (fun h => ?_) (fun h => ?_) <;> (conv => whnf)))
      refine ANext.mk ⟨k + 1, hlt, by omega, ?_, SubO.nil⟩
      exact hds
theorem eqWrite_p (x : DWrite) (hs : DWrite.small 1048576 x) : PCall av 290 [.agg x.ds, .agg x.ds] (rB true) := by
  refine pcall_of av_ok Tryz.func290 rfl Tryz.call290 Tryz.ntmps290 (congrArg Array.toList Tryz.results290) fun S => ?_; conv => whnf
  have h1 := neI x.at_
  repeat' (first | (refine aw0 ?_) | ((first | refine aw1 ?_ | refine aw2 ?_ | refine aw3 ?_ | refine aw4 ?_ | refine aw5 ?_ | refine aw6 ?_ | refine aw7 ?_ | refine aw8 ?_); conv => whnf) | (refine ACall.pure (eqInt64S_p x.row hs) rfl ?_; conv => whnf) | ((first | refine bT ?_ | refine bF ?_); conv => whnf) | (exact rr) | (refine And.intro rfl ?_; conv => whnf) | (refine AB.mk (fun h => ?_) (fun h => ?_) <;> (conv => whnf)))
theorem eqWriteS_p (l : (List DWrite)) (hs : l.length ≤ 1048576 ∧ ∀ y ∈ l, DWrite.small 1048576 y) : PCall av 223 [.one (.sl (l.map DWrite.ds)), .one (.sl (l.map DWrite.ds))] (rB true) := by
  have hl : l.length ≤ 1048576 := hs.1
  refine pcall_of av_ok Tryz.func223 rfl Tryz.call223 Tryz.ntmps223 (congrArg Array.toList Tryz.results223) fun S => ?_; conv => whnf
  have h0 : (((l.map DWrite.ds).length : Int) != ((l.map DWrite.ds).length : Int)) = false := neI _
  repeat' (first | (refine aw0 ?_) | ((first | refine aw1 ?_ | refine aw2 ?_ | refine aw3 ?_ | refine aw4 ?_ | refine aw5 ?_ | refine aw6 ?_ | refine aw7 ?_ | refine aw8 ?_); conv => whnf) | ((first | refine bT ?_ | refine bF ?_); conv => whnf) | (exact rr) | (refine And.intro rfl ?_; conv => whnf) | (refine AB.mk (fun h => ?_) (fun h => ?_) <;> (conv => whnf)))
  refine AWP.loopS (fun k : Nat => k ≤ l.length) [4, 5, 11, 12, 13, 14, 15, 16, 17, 18, 19, 20, 21, 22, 23, 24, 25, 26] (fun k => [(5, vI .i64 (k : Int))]) (fun k => []) (fun k => l.length - k) 0 (by omega) ?_ SubO.nil (fun k hR => ?_) <;> (conv => whnf)
  · exact whd
  · repeat' (first | (refine aw0 ?_) | ((first | refine aw1 ?_ | refine aw2 ?_ | refine aw3 ?_ | refine aw4 ?_ | refine aw5 ?_ | refine aw6 ?_ | refine aw7 ?_ | refine aw8 ?_); conv => whnf) | ((first | refine bT ?_ | refine bF ?_); conv => whnf) | (exact rr) | (refine And.intro rfl ?_; conv => whnf) | (refine AB.mk (fun h => ?_) (fun h => ?_) <;> (conv => whnf)))
    · have hlt : k < l.length := ari
      (refine AWP.drawK av_ok 6 8 dk_WEq_laws_eqWriteS_6 fk_WEq_laws_eqWriteS_6 (by kernel_rfl) (by kernel_rfl) (by kernel_rfl) rfl ?_; conv => whnf)
      repeat' (first | (refine aw0 ?_) | ((first | refine aw1 ?_ | refine aw2 ?_ | refine aw3 ?_ | refine aw4 ?_ | refine aw5 ?_ | refine aw6 ?_ | refine aw7 ?_ | refine aw8 ?_); conv => whnf) | ((first | refine bT ?_ | refine bF ?_); conv => whnf) | (refine AIx.map hlt ?_; conv => whnf) | (refine ACall.pure (eqWrite_p _ (hs.2 _ (List.getElem_mem hlt))) rfl ?_; conv => whnf) | (refine AFCall.mk ⟨_, _, eqWrite_p _ (hs.2 _ (List.getElem_mem hlt)), .inl rfl, ?_⟩; conv => whnf) | (refine AW.i64 ari ari ?_; conv => whnf) | (exact rr) | (refine And.intro rfl ?_; conv => whnf) | (refine AB.mk (fun h => ?_) (fun h => ?_) <;> (conv => whnf)))
      refine ANext.mk ⟨k + 1, hlt, by omega, ?_, SubO.nil⟩
      exact hds
theorem eqDisk_p (x : DDisk) (hs : DDisk.small 1048576 x) : PCall av 143 [.agg x.ds, .agg x.ds] (rB true) := by
  refine pcall_of av_ok Tryz.func143 rfl Tryz.call143 Tryz.ntmps143 (congrArg Array.toList Tryz.results143) fun S => ?_; conv => whnf
  repeat' (first | (refine aw0 ?_) | ((first | refine aw1 ?_ | refine aw2 ?_ | refine aw3 ?_ | refine aw4 ?_ | refine aw5 ?_ | refine aw6 ?_ | refine aw7 ?_ | refine aw8 ?_); conv => whnf) | (refine ACall.pure (eqInt64SS_p x.kept ⟨hs.1, hs.2.1⟩) rfl ?_; conv => whnf) | (refine ACall.pure (eqWriteS_p x.wait ⟨hs.2.2.1, hs.2.2.2⟩) rfl ?_; conv => whnf) | ((first | refine bT ?_ | refine bF ?_); conv => whnf) | (exact rr) | (refine And.intro rfl ?_; conv => whnf) | (refine AB.mk (fun h => ?_) (fun h => ?_) <;> (conv => whnf)))
theorem eqTwo_p (x : DTwo) (hs : DTwo.small 1048576 x) : PCall av 138 [.agg x.ds, .agg x.ds] (rB true) := by
  refine pcall_of av_ok Tryz.func138 rfl Tryz.call138 Tryz.ntmps138 (congrArg Array.toList Tryz.results138) fun S => ?_; conv => whnf
  repeat' (first | (refine aw0 ?_) | ((first | refine aw1 ?_ | refine aw2 ?_ | refine aw3 ?_ | refine aw4 ?_ | refine aw5 ?_ | refine aw6 ?_ | refine aw7 ?_ | refine aw8 ?_); conv => whnf) | (refine ACall.pure (eqDisk_p x.a hs.1) rfl ?_; conv => whnf) | (refine ACall.pure (eqDisk_p x.b hs.2) rfl ?_; conv => whnf) | ((first | refine bT ?_ | refine bF ?_); conv => whnf) | (exact rr) | (refine And.intro rfl ?_; conv => whnf) | (refine AB.mk (fun h => ?_) (fun h => ?_) <;> (conv => whnf)))
theorem eqMark_p (x : DMark) : PCall av 220 [.agg x.ds, .agg x.ds] (rB true) := by
  refine pcall_of av_ok Tryz.func220 rfl Tryz.call220 Tryz.ntmps220 (congrArg Array.toList Tryz.results220) fun S => ?_; conv => whnf
  have h1 := neI x.client
  have h2 := neI x.seq
  have h3 := neI x.index
  repeat' (first | (refine aw0 ?_) | ((first | refine aw1 ?_ | refine aw2 ?_ | refine aw3 ?_ | refine aw4 ?_ | refine aw5 ?_ | refine aw6 ?_ | refine aw7 ?_ | refine aw8 ?_); conv => whnf) | ((first | refine bT ?_ | refine bF ?_); conv => whnf) | (exact rr) | (refine And.intro rfl ?_; conv => whnf) | (refine AB.mk (fun h => ?_) (fun h => ?_) <;> (conv => whnf)))
theorem eqMarkS_p (l : (List DMark)) (hs : l.length ≤ 1048576) : PCall av 141 [.one (.sl (l.map DMark.ds)), .one (.sl (l.map DMark.ds))] (rB true) := by
  have hl : l.length ≤ 1048576 := hs
  refine pcall_of av_ok Tryz.func141 rfl Tryz.call141 Tryz.ntmps141 (congrArg Array.toList Tryz.results141) fun S => ?_; conv => whnf
  have h0 : (((l.map DMark.ds).length : Int) != ((l.map DMark.ds).length : Int)) = false := neI _
  repeat' (first | (refine aw0 ?_) | ((first | refine aw1 ?_ | refine aw2 ?_ | refine aw3 ?_ | refine aw4 ?_ | refine aw5 ?_ | refine aw6 ?_ | refine aw7 ?_ | refine aw8 ?_); conv => whnf) | ((first | refine bT ?_ | refine bF ?_); conv => whnf) | (exact rr) | (refine And.intro rfl ?_; conv => whnf) | (refine AB.mk (fun h => ?_) (fun h => ?_) <;> (conv => whnf)))
  refine AWP.loopS (fun k : Nat => k ≤ l.length) [4, 5, 11, 12, 13, 14, 15, 16, 17, 18, 19, 20, 21, 22, 23, 24, 25, 26] (fun k => [(5, vI .i64 (k : Int))]) (fun k => []) (fun k => l.length - k) 0 (by omega) ?_ SubO.nil (fun k hR => ?_) <;> (conv => whnf)
  · exact whd
  · repeat' (first | (refine aw0 ?_) | ((first | refine aw1 ?_ | refine aw2 ?_ | refine aw3 ?_ | refine aw4 ?_ | refine aw5 ?_ | refine aw6 ?_ | refine aw7 ?_ | refine aw8 ?_); conv => whnf) | ((first | refine bT ?_ | refine bF ?_); conv => whnf) | (exact rr) | (refine And.intro rfl ?_; conv => whnf) | (refine AB.mk (fun h => ?_) (fun h => ?_) <;> (conv => whnf)))
    · have hlt : k < l.length := ari
      (refine AWP.drawK av_ok 6 8 dk_WEq_laws_eqMarkS_6 fk_WEq_laws_eqMarkS_6 (by kernel_rfl) (by kernel_rfl) (by kernel_rfl) rfl ?_; conv => whnf)
      repeat' (first | (refine aw0 ?_) | ((first | refine aw1 ?_ | refine aw2 ?_ | refine aw3 ?_ | refine aw4 ?_ | refine aw5 ?_ | refine aw6 ?_ | refine aw7 ?_ | refine aw8 ?_); conv => whnf) | ((first | refine bT ?_ | refine bF ?_); conv => whnf) | (refine AIx.map hlt ?_; conv => whnf) | (refine ACall.pure (eqMark_p _ ) rfl ?_; conv => whnf) | (refine AFCall.mk ⟨_, _, eqMark_p _ , .inl rfl, ?_⟩; conv => whnf) | (refine AW.i64 ari ari ?_; conv => whnf) | (exact rr) | (refine And.intro rfl ?_; conv => whnf) | (refine AB.mk (fun h => ?_) (fun h => ?_) <;> (conv => whnf)))
      refine ANext.mk ⟨k + 1, hlt, by omega, ?_, SubO.nil⟩
      exact hds
theorem eqHead_p (x : DHead) (hs : DHead.small 1048576 x) : PCall av 139 [.agg x.ds, .agg x.ds] (rB true) := by
  refine pcall_of av_ok Tryz.func139 rfl Tryz.call139 Tryz.ntmps139 (congrArg Array.toList Tryz.results139) fun S => ?_; conv => whnf
  have h1 := neI x.num
  have h2 := neI x.base
  have h3 := neI x.time
  repeat' (first | (refine aw0 ?_) | ((first | refine aw1 ?_ | refine aw2 ?_ | refine aw3 ?_ | refine aw4 ?_ | refine aw5 ?_ | refine aw6 ?_ | refine aw7 ?_ | refine aw8 ?_); conv => whnf) | (refine ACall.pure (eqMarkS_p x.seen hs) rfl ?_; conv => whnf) | ((first | refine bT ?_ | refine bF ?_); conv => whnf) | (exact rr) | (refine And.intro rfl ?_; conv => whnf) | (refine AB.mk (fun h => ?_) (fun h => ?_) <;> (conv => whnf)))
theorem eqOp_p (x : DOp) : PCall av 146 [.agg x.ds, .agg x.ds] (rB true) := by
  refine pcall_of av_ok Tryz.func146 rfl Tryz.call146 Tryz.ntmps146 (congrArg Array.toList Tryz.results146) fun S => ?_; conv => whnf
  have h1 := neI x.kind
  have h2 := neI x.a
  have h3 := neI x.b
  have h4 := neI x.c
  have h5 := neI x.d
  repeat' (first | (refine aw0 ?_) | ((first | refine aw1 ?_ | refine aw2 ?_ | refine aw3 ?_ | refine aw4 ?_ | refine aw5 ?_ | refine aw6 ?_ | refine aw7 ?_ | refine aw8 ?_); conv => whnf) | ((first | refine bT ?_ | refine bF ?_); conv => whnf) | (exact rr) | (refine And.intro rfl ?_; conv => whnf) | (refine AB.mk (fun h => ?_) (fun h => ?_) <;> (conv => whnf)))
theorem eqEntry_p (x : DEntry) : PCall av 289 [.agg x.ds, .agg x.ds] (rB true) := by
  refine pcall_of av_ok Tryz.func289 rfl Tryz.call289 Tryz.ntmps289 (congrArg Array.toList Tryz.results289) fun S => ?_; conv => whnf
  have h1 := neI x.index
  have h2 := neI x.time
  have h3 := neI x.client
  have h4 := neI x.seq
  repeat' (first | (refine aw0 ?_) | ((first | refine aw1 ?_ | refine aw2 ?_ | refine aw3 ?_ | refine aw4 ?_ | refine aw5 ?_ | refine aw6 ?_ | refine aw7 ?_ | refine aw8 ?_); conv => whnf) | (refine ACall.pure (eqOp_p x.op ) rfl ?_; conv => whnf) | ((first | refine bT ?_ | refine bF ?_); conv => whnf) | (exact rr) | (refine And.intro rfl ?_; conv => whnf) | (refine AB.mk (fun h => ?_) (fun h => ?_) <;> (conv => whnf)))
theorem eqEntryS_p (l : (List DEntry)) (hs : l.length ≤ 1048576) : PCall av 219 [.one (.sl (l.map DEntry.ds)), .one (.sl (l.map DEntry.ds))] (rB true) := by
  have hl : l.length ≤ 1048576 := hs
  refine pcall_of av_ok Tryz.func219 rfl Tryz.call219 Tryz.ntmps219 (congrArg Array.toList Tryz.results219) fun S => ?_; conv => whnf
  have h0 : (((l.map DEntry.ds).length : Int) != ((l.map DEntry.ds).length : Int)) = false := neI _
  repeat' (first | (refine aw0 ?_) | ((first | refine aw1 ?_ | refine aw2 ?_ | refine aw3 ?_ | refine aw4 ?_ | refine aw5 ?_ | refine aw6 ?_ | refine aw7 ?_ | refine aw8 ?_); conv => whnf) | ((first | refine bT ?_ | refine bF ?_); conv => whnf) | (exact rr) | (refine And.intro rfl ?_; conv => whnf) | (refine AB.mk (fun h => ?_) (fun h => ?_) <;> (conv => whnf)))
  refine AWP.loopS (fun k : Nat => k ≤ l.length) [4, 5, 11, 12, 13, 14, 15, 16, 17, 18, 19, 20, 21, 22, 23, 24, 25, 26] (fun k => [(5, vI .i64 (k : Int))]) (fun k => []) (fun k => l.length - k) 0 (by omega) ?_ SubO.nil (fun k hR => ?_) <;> (conv => whnf)
  · exact whd
  · repeat' (first | (refine aw0 ?_) | ((first | refine aw1 ?_ | refine aw2 ?_ | refine aw3 ?_ | refine aw4 ?_ | refine aw5 ?_ | refine aw6 ?_ | refine aw7 ?_ | refine aw8 ?_); conv => whnf) | ((first | refine bT ?_ | refine bF ?_); conv => whnf) | (exact rr) | (refine And.intro rfl ?_; conv => whnf) | (refine AB.mk (fun h => ?_) (fun h => ?_) <;> (conv => whnf)))
    · have hlt : k < l.length := ari
      (refine AWP.drawK av_ok 6 8 dk_WEq_laws_eqEntryS_6 fk_WEq_laws_eqEntryS_6 (by kernel_rfl) (by kernel_rfl) (by kernel_rfl) rfl ?_; conv => whnf)
      repeat' (first | (refine aw0 ?_) | ((first | refine aw1 ?_ | refine aw2 ?_ | refine aw3 ?_ | refine aw4 ?_ | refine aw5 ?_ | refine aw6 ?_ | refine aw7 ?_ | refine aw8 ?_); conv => whnf) | ((first | refine bT ?_ | refine bF ?_); conv => whnf) | (refine AIx.map hlt ?_; conv => whnf) | (refine ACall.pure (eqEntry_p _ ) rfl ?_; conv => whnf) | (refine AFCall.mk ⟨_, _, eqEntry_p _ , .inl rfl, ?_⟩; conv => whnf) | (refine AW.i64 ari ari ?_; conv => whnf) | (exact rr) | (refine And.intro rfl ?_; conv => whnf) | (refine AB.mk (fun h => ?_) (fun h => ?_) <;> (conv => whnf)))
      refine ANext.mk ⟨k + 1, hlt, by omega, ?_, SubO.nil⟩
      exact hds
theorem eqBook_p (x : DBook) (hs : DBook.small 1048576 x) : PCall av 140 [.agg x.ds, .agg x.ds] (rB true) := by
  refine pcall_of av_ok Tryz.func140 rfl Tryz.call140 Tryz.ntmps140 (congrArg Array.toList Tryz.results140) fun S => ?_; conv => whnf
  have h1 := neI x.base
  have h2 := neI x.time
  repeat' (first | (refine aw0 ?_) | ((first | refine aw1 ?_ | refine aw2 ?_ | refine aw3 ?_ | refine aw4 ?_ | refine aw5 ?_ | refine aw6 ?_ | refine aw7 ?_ | refine aw8 ?_); conv => whnf) | (refine ACall.pure (eqEntryS_p x.entries hs) rfl ?_; conv => whnf) | ((first | refine bT ?_ | refine bF ?_); conv => whnf) | (exact rr) | (refine And.intro rfl ?_; conv => whnf) | (refine AB.mk (fun h => ?_) (fun h => ?_) <;> (conv => whnf)))
theorem eqAck_p (x : DAck) : PCall av 221 [.agg x.ds, .agg x.ds] (rB true) := by
  refine pcall_of av_ok Tryz.func221 rfl Tryz.call221 Tryz.ntmps221 (congrArg Array.toList Tryz.results221) fun S => ?_; conv => whnf
  have h1 := neI x.client
  have h2 := neI x.seq
  have h3 := neI x.index
  have h4 := neI x.last
  repeat' (first | (refine aw0 ?_) | ((first | refine aw1 ?_ | refine aw2 ?_ | refine aw3 ?_ | refine aw4 ?_ | refine aw5 ?_ | refine aw6 ?_ | refine aw7 ?_ | refine aw8 ?_); conv => whnf) | ((first | refine bT ?_ | refine bF ?_); conv => whnf) | (exact rr) | (refine And.intro rfl ?_; conv => whnf) | (refine AB.mk (fun h => ?_) (fun h => ?_) <;> (conv => whnf)))
theorem eqAckS_p (l : (List DAck)) (hs : l.length ≤ 1048576) : PCall av 142 [.one (.sl (l.map DAck.ds)), .one (.sl (l.map DAck.ds))] (rB true) := by
  have hl : l.length ≤ 1048576 := hs
  refine pcall_of av_ok Tryz.func142 rfl Tryz.call142 Tryz.ntmps142 (congrArg Array.toList Tryz.results142) fun S => ?_; conv => whnf
  have h0 : (((l.map DAck.ds).length : Int) != ((l.map DAck.ds).length : Int)) = false := neI _
  repeat' (first | (refine aw0 ?_) | ((first | refine aw1 ?_ | refine aw2 ?_ | refine aw3 ?_ | refine aw4 ?_ | refine aw5 ?_ | refine aw6 ?_ | refine aw7 ?_ | refine aw8 ?_); conv => whnf) | ((first | refine bT ?_ | refine bF ?_); conv => whnf) | (exact rr) | (refine And.intro rfl ?_; conv => whnf) | (refine AB.mk (fun h => ?_) (fun h => ?_) <;> (conv => whnf)))
  refine AWP.loopS (fun k : Nat => k ≤ l.length) [4, 5, 11, 12, 13, 14, 15, 16, 17, 18, 19, 20, 21, 22, 23, 24, 25, 26] (fun k => [(5, vI .i64 (k : Int))]) (fun k => []) (fun k => l.length - k) 0 (by omega) ?_ SubO.nil (fun k hR => ?_) <;> (conv => whnf)
  · exact whd
  · repeat' (first | (refine aw0 ?_) | ((first | refine aw1 ?_ | refine aw2 ?_ | refine aw3 ?_ | refine aw4 ?_ | refine aw5 ?_ | refine aw6 ?_ | refine aw7 ?_ | refine aw8 ?_); conv => whnf) | ((first | refine bT ?_ | refine bF ?_); conv => whnf) | (exact rr) | (refine And.intro rfl ?_; conv => whnf) | (refine AB.mk (fun h => ?_) (fun h => ?_) <;> (conv => whnf)))
    · have hlt : k < l.length := ari
      (refine AWP.drawK av_ok 6 8 dk_WEq_laws_eqAckS_6 fk_WEq_laws_eqAckS_6 (by kernel_rfl) (by kernel_rfl) (by kernel_rfl) rfl ?_; conv => whnf)
      repeat' (first | (refine aw0 ?_) | ((first | refine aw1 ?_ | refine aw2 ?_ | refine aw3 ?_ | refine aw4 ?_ | refine aw5 ?_ | refine aw6 ?_ | refine aw7 ?_ | refine aw8 ?_); conv => whnf) | ((first | refine bT ?_ | refine bF ?_); conv => whnf) | (refine AIx.map hlt ?_; conv => whnf) | (refine ACall.pure (eqAck_p _ ) rfl ?_; conv => whnf) | (refine AFCall.mk ⟨_, _, eqAck_p _ , .inl rfl, ?_⟩; conv => whnf) | (refine AW.i64 ari ari ?_; conv => whnf) | (exact rr) | (refine And.intro rfl ?_; conv => whnf) | (refine AB.mk (fun h => ?_) (fun h => ?_) <;> (conv => whnf)))
      refine ANext.mk ⟨k + 1, hlt, by omega, ?_, SubO.nil⟩
      exact hds
theorem eqLogNode_p (x : DLogNode) (hs : DLogNode.small 1048576 x) : PCall av 50 [.agg x.ds, .agg x.ds] (rB true) := by
  refine pcall_of av_ok Tryz.func50 rfl Tryz.call50 Tryz.ntmps50 (congrArg Array.toList Tryz.results50) fun S => ?_; conv => whnf
  have h4 : (!(x.more == x.more)) = false := neB _
  have h7 := neI x.durable
  repeat' (first | (refine aw0 ?_) | ((first | refine aw1 ?_ | refine aw2 ?_ | refine aw3 ?_ | refine aw4 ?_ | refine aw5 ?_ | refine aw6 ?_ | refine aw7 ?_ | refine aw8 ?_); conv => whnf) | (refine ACall.pure (eqTwo_p x.two hs.1) rfl ?_; conv => whnf) | (refine ACall.pure (eqHead_p x.head hs.2.1) rfl ?_; conv => whnf) | (refine ACall.pure (eqHead_p x.nxt hs.2.2.1) rfl ?_; conv => whnf) | (refine ACall.pure (eqBook_p x.book hs.2.2.2.1) rfl ?_; conv => whnf) | (refine ACall.pure (eqMarkS_p x.seen hs.2.2.2.2.1) rfl ?_; conv => whnf) | (refine ACall.pure (eqAckS_p x.owe hs.2.2.2.2.2) rfl ?_; conv => whnf) | ((first | refine bT ?_ | refine bF ?_); conv => whnf) | (exact rr) | (refine And.intro rfl ?_; conv => whnf) | (refine AB.mk (fun h => ?_) (fun h => ?_) <;> (conv => whnf)))
theorem eqPair_p (x : DPair) : PCall av 291 [.agg x.ds, .agg x.ds] (rB true) := by
  refine pcall_of av_ok Tryz.func291 rfl Tryz.call291 Tryz.ntmps291 (congrArg Array.toList Tryz.results291) fun S => ?_; conv => whnf
  have h1 := neI x.key
  have h2 := neI x.value
  repeat' (first | (refine aw0 ?_) | ((first | refine aw1 ?_ | refine aw2 ?_ | refine aw3 ?_ | refine aw4 ?_ | refine aw5 ?_ | refine aw6 ?_ | refine aw7 ?_ | refine aw8 ?_); conv => whnf) | ((first | refine bT ?_ | refine bF ?_); conv => whnf) | (exact rr) | (refine And.intro rfl ?_; conv => whnf) | (refine AB.mk (fun h => ?_) (fun h => ?_) <;> (conv => whnf)))
theorem eqPairS_p (l : (List DPair)) (hs : l.length ≤ 1048576) : PCall av 224 [.one (.sl (l.map DPair.ds)), .one (.sl (l.map DPair.ds))] (rB true) := by
  have hl : l.length ≤ 1048576 := hs
  refine pcall_of av_ok Tryz.func224 rfl Tryz.call224 Tryz.ntmps224 (congrArg Array.toList Tryz.results224) fun S => ?_; conv => whnf
  have h0 : (((l.map DPair.ds).length : Int) != ((l.map DPair.ds).length : Int)) = false := neI _
  repeat' (first | (refine aw0 ?_) | ((first | refine aw1 ?_ | refine aw2 ?_ | refine aw3 ?_ | refine aw4 ?_ | refine aw5 ?_ | refine aw6 ?_ | refine aw7 ?_ | refine aw8 ?_); conv => whnf) | ((first | refine bT ?_ | refine bF ?_); conv => whnf) | (exact rr) | (refine And.intro rfl ?_; conv => whnf) | (refine AB.mk (fun h => ?_) (fun h => ?_) <;> (conv => whnf)))
  refine AWP.loopS (fun k : Nat => k ≤ l.length) [4, 5, 11, 12, 13, 14, 15, 16, 17, 18, 19, 20, 21, 22, 23, 24, 25, 26] (fun k => [(5, vI .i64 (k : Int))]) (fun k => []) (fun k => l.length - k) 0 (by omega) ?_ SubO.nil (fun k hR => ?_) <;> (conv => whnf)
  · exact whd
  · repeat' (first | (refine aw0 ?_) | ((first | refine aw1 ?_ | refine aw2 ?_ | refine aw3 ?_ | refine aw4 ?_ | refine aw5 ?_ | refine aw6 ?_ | refine aw7 ?_ | refine aw8 ?_); conv => whnf) | ((first | refine bT ?_ | refine bF ?_); conv => whnf) | (exact rr) | (refine And.intro rfl ?_; conv => whnf) | (refine AB.mk (fun h => ?_) (fun h => ?_) <;> (conv => whnf)))
    · have hlt : k < l.length := ari
      (refine AWP.drawK av_ok 6 8 dk_WEq_laws_eqPairS_6 fk_WEq_laws_eqPairS_6 (by kernel_rfl) (by kernel_rfl) (by kernel_rfl) rfl ?_; conv => whnf)
      repeat' (first | (refine aw0 ?_) | ((first | refine aw1 ?_ | refine aw2 ?_ | refine aw3 ?_ | refine aw4 ?_ | refine aw5 ?_ | refine aw6 ?_ | refine aw7 ?_ | refine aw8 ?_); conv => whnf) | ((first | refine bT ?_ | refine bF ?_); conv => whnf) | (refine AIx.map hlt ?_; conv => whnf) | (refine ACall.pure (eqPair_p _ ) rfl ?_; conv => whnf) | (refine AFCall.mk ⟨_, _, eqPair_p _ , .inl rfl, ?_⟩; conv => whnf) | (refine AW.i64 ari ari ?_; conv => whnf) | (exact rr) | (refine And.intro rfl ?_; conv => whnf) | (refine AB.mk (fun h => ?_) (fun h => ?_) <;> (conv => whnf)))
      refine ANext.mk ⟨k + 1, hlt, by omega, ?_, SubO.nil⟩
      exact hds
theorem eqJob_p (x : DJob) : PCall av 292 [.agg x.ds, .agg x.ds] (rB true) := by
  refine pcall_of av_ok Tryz.func292 rfl Tryz.call292 Tryz.ntmps292 (congrArg Array.toList Tryz.results292) fun S => ?_; conv => whnf
  have h1 := neI x.id
  have h2 := neI x.due
  have h3 := neI x.key
  have h4 := neI x.value
  have h5 := neI x.fired
  repeat' (first | (refine aw0 ?_) | ((first | refine aw1 ?_ | refine aw2 ?_ | refine aw3 ?_ | refine aw4 ?_ | refine aw5 ?_ | refine aw6 ?_ | refine aw7 ?_ | refine aw8 ?_); conv => whnf) | ((first | refine bT ?_ | refine bF ?_); conv => whnf) | (exact rr) | (refine And.intro rfl ?_; conv => whnf) | (refine AB.mk (fun h => ?_) (fun h => ?_) <;> (conv => whnf)))
theorem eqJobS_p (l : (List DJob)) (hs : l.length ≤ 1048576) : PCall av 225 [.one (.sl (l.map DJob.ds)), .one (.sl (l.map DJob.ds))] (rB true) := by
  have hl : l.length ≤ 1048576 := hs
  refine pcall_of av_ok Tryz.func225 rfl Tryz.call225 Tryz.ntmps225 (congrArg Array.toList Tryz.results225) fun S => ?_; conv => whnf
  have h0 : (((l.map DJob.ds).length : Int) != ((l.map DJob.ds).length : Int)) = false := neI _
  repeat' (first | (refine aw0 ?_) | ((first | refine aw1 ?_ | refine aw2 ?_ | refine aw3 ?_ | refine aw4 ?_ | refine aw5 ?_ | refine aw6 ?_ | refine aw7 ?_ | refine aw8 ?_); conv => whnf) | ((first | refine bT ?_ | refine bF ?_); conv => whnf) | (exact rr) | (refine And.intro rfl ?_; conv => whnf) | (refine AB.mk (fun h => ?_) (fun h => ?_) <;> (conv => whnf)))
  refine AWP.loopS (fun k : Nat => k ≤ l.length) [4, 5, 11, 12, 13, 14, 15, 16, 17, 18, 19, 20, 21, 22, 23, 24, 25, 26] (fun k => [(5, vI .i64 (k : Int))]) (fun k => []) (fun k => l.length - k) 0 (by omega) ?_ SubO.nil (fun k hR => ?_) <;> (conv => whnf)
  · exact whd
  · repeat' (first | (refine aw0 ?_) | ((first | refine aw1 ?_ | refine aw2 ?_ | refine aw3 ?_ | refine aw4 ?_ | refine aw5 ?_ | refine aw6 ?_ | refine aw7 ?_ | refine aw8 ?_); conv => whnf) | ((first | refine bT ?_ | refine bF ?_); conv => whnf) | (exact rr) | (refine And.intro rfl ?_; conv => whnf) | (refine AB.mk (fun h => ?_) (fun h => ?_) <;> (conv => whnf)))
    · have hlt : k < l.length := ari
      (refine AWP.drawK av_ok 6 8 dk_WEq_laws_eqJobS_6 fk_WEq_laws_eqJobS_6 (by kernel_rfl) (by kernel_rfl) (by kernel_rfl) rfl ?_; conv => whnf)
      repeat' (first | (refine aw0 ?_) | ((first | refine aw1 ?_ | refine aw2 ?_ | refine aw3 ?_ | refine aw4 ?_ | refine aw5 ?_ | refine aw6 ?_ | refine aw7 ?_ | refine aw8 ?_); conv => whnf) | ((first | refine bT ?_ | refine bF ?_); conv => whnf) | (refine AIx.map hlt ?_; conv => whnf) | (refine ACall.pure (eqJob_p _ ) rfl ?_; conv => whnf) | (refine AFCall.mk ⟨_, _, eqJob_p _ , .inl rfl, ?_⟩; conv => whnf) | (refine AW.i64 ari ari ?_; conv => whnf) | (exact rr) | (refine And.intro rfl ?_; conv => whnf) | (refine AB.mk (fun h => ?_) (fun h => ?_) <;> (conv => whnf)))
      refine ANext.mk ⟨k + 1, hlt, by omega, ?_, SubO.nil⟩
      exact hds
theorem eqLease_p (x : DLease) : PCall av 226 [.agg x.ds, .agg x.ds] (rB true) := by
  refine pcall_of av_ok Tryz.func226 rfl Tryz.call226 Tryz.ntmps226 (congrArg Array.toList Tryz.results226) fun S => ?_; conv => whnf
  have h1 := neI x.holder
  have h2 := neI x.epoch
  have h3 := neI x.til
  repeat' (first | (refine aw0 ?_) | ((first | refine aw1 ?_ | refine aw2 ?_ | refine aw3 ?_ | refine aw4 ?_ | refine aw5 ?_ | refine aw6 ?_ | refine aw7 ?_ | refine aw8 ?_); conv => whnf) | ((first | refine bT ?_ | refine bF ?_); conv => whnf) | (exact rr) | (refine And.intro rfl ?_; conv => whnf) | (refine AB.mk (fun h => ?_) (fun h => ?_) <;> (conv => whnf)))
theorem eqState_p (x : DState) (hs : DState.small 1048576 x) : PCall av 144 [.agg x.ds, .agg x.ds] (rB true) := by
  refine pcall_of av_ok Tryz.func144 rfl Tryz.call144 Tryz.ntmps144 (congrArg Array.toList Tryz.results144) fun S => ?_; conv => whnf
  have h1 := neI x.index
  have h2 := neI x.time
  repeat' (first | (refine aw0 ?_) | ((first | refine aw1 ?_ | refine aw2 ?_ | refine aw3 ?_ | refine aw4 ?_ | refine aw5 ?_ | refine aw6 ?_ | refine aw7 ?_ | refine aw8 ?_); conv => whnf) | (refine ACall.pure (eqPairS_p x.pairs hs.1) rfl ?_; conv => whnf) | (refine ACall.pure (eqJobS_p x.jobs hs.2) rfl ?_; conv => whnf) | (refine ACall.pure (eqLease_p x.lease ) rfl ?_; conv => whnf) | ((first | refine bT ?_ | refine bF ?_); conv => whnf) | (exact rr) | (refine And.intro rfl ?_; conv => whnf) | (refine AB.mk (fun h => ?_) (fun h => ?_) <;> (conv => whnf)))
theorem eqStore_p (x : DStore) (hs : DStore.small 1048576 x) : PCall av 51 [.agg x.ds, .agg x.ds] (rB true) := by
  refine pcall_of av_ok Tryz.func51 rfl Tryz.call51 Tryz.ntmps51 (congrArg Array.toList Tryz.results51) fun S => ?_; conv => whnf
  have h3 := neI x.num
  have h4 := neI x.last
  have h5 := neI x.busy
  repeat' (first | (refine aw0 ?_) | ((first | refine aw1 ?_ | refine aw2 ?_ | refine aw3 ?_ | refine aw4 ?_ | refine aw5 ?_ | refine aw6 ?_ | refine aw7 ?_ | refine aw8 ?_); conv => whnf) | (refine ACall.pure (eqDisk_p x.disk hs.1) rfl ?_; conv => whnf) | (refine ACall.pure (eqState_p x.state hs.2) rfl ?_; conv => whnf) | ((first | refine bT ?_ | refine bF ?_); conv => whnf) | (exact rr) | (refine And.intro rfl ?_; conv => whnf) | (refine AB.mk (fun h => ?_) (fun h => ?_) <;> (conv => whnf)))
theorem eqDue_p (x : DDue) : PCall av 341 [.agg x.ds, .agg x.ds] (rB true) := by
  refine pcall_of av_ok Tryz.func341 rfl Tryz.call341 Tryz.ntmps341 (congrArg Array.toList Tryz.results341) fun S => ?_; conv => whnf
  have h1 := neI x.id
  have h2 := neI x.due
  repeat' (first | (refine aw0 ?_) | ((first | refine aw1 ?_ | refine aw2 ?_ | refine aw3 ?_ | refine aw4 ?_ | refine aw5 ?_ | refine aw6 ?_ | refine aw7 ?_ | refine aw8 ?_); conv => whnf) | ((first | refine bT ?_ | refine bF ?_); conv => whnf) | (exact rr) | (refine And.intro rfl ?_; conv => whnf) | (refine AB.mk (fun h => ?_) (fun h => ?_) <;> (conv => whnf)))
theorem eqDueS_p (l : (List DDue)) (hs : l.length ≤ 1048576) : PCall av 293 [.one (.sl (l.map DDue.ds)), .one (.sl (l.map DDue.ds))] (rB true) := by
  have hl : l.length ≤ 1048576 := hs
  refine pcall_of av_ok Tryz.func293 rfl Tryz.call293 Tryz.ntmps293 (congrArg Array.toList Tryz.results293) fun S => ?_; conv => whnf
  have h0 : (((l.map DDue.ds).length : Int) != ((l.map DDue.ds).length : Int)) = false := neI _
  repeat' (first | (refine aw0 ?_) | ((first | refine aw1 ?_ | refine aw2 ?_ | refine aw3 ?_ | refine aw4 ?_ | refine aw5 ?_ | refine aw6 ?_ | refine aw7 ?_ | refine aw8 ?_); conv => whnf) | ((first | refine bT ?_ | refine bF ?_); conv => whnf) | (exact rr) | (refine And.intro rfl ?_; conv => whnf) | (refine AB.mk (fun h => ?_) (fun h => ?_) <;> (conv => whnf)))
  refine AWP.loopS (fun k : Nat => k ≤ l.length) [4, 5, 11, 12, 13, 14, 15, 16, 17, 18, 19, 20, 21, 22, 23, 24, 25, 26] (fun k => [(5, vI .i64 (k : Int))]) (fun k => []) (fun k => l.length - k) 0 (by omega) ?_ SubO.nil (fun k hR => ?_) <;> (conv => whnf)
  · exact whd
  · repeat' (first | (refine aw0 ?_) | ((first | refine aw1 ?_ | refine aw2 ?_ | refine aw3 ?_ | refine aw4 ?_ | refine aw5 ?_ | refine aw6 ?_ | refine aw7 ?_ | refine aw8 ?_); conv => whnf) | ((first | refine bT ?_ | refine bF ?_); conv => whnf) | (exact rr) | (refine And.intro rfl ?_; conv => whnf) | (refine AB.mk (fun h => ?_) (fun h => ?_) <;> (conv => whnf)))
    · have hlt : k < l.length := ari
      (refine AWP.drawK av_ok 6 8 dk_WEq_laws_eqDueS_6 fk_WEq_laws_eqDueS_6 (by kernel_rfl) (by kernel_rfl) (by kernel_rfl) rfl ?_; conv => whnf)
      repeat' (first | (refine aw0 ?_) | ((first | refine aw1 ?_ | refine aw2 ?_ | refine aw3 ?_ | refine aw4 ?_ | refine aw5 ?_ | refine aw6 ?_ | refine aw7 ?_ | refine aw8 ?_); conv => whnf) | ((first | refine bT ?_ | refine bF ?_); conv => whnf) | (refine AIx.map hlt ?_; conv => whnf) | (refine ACall.pure (eqDue_p _ ) rfl ?_; conv => whnf) | (refine AFCall.mk ⟨_, _, eqDue_p _ , .inl rfl, ?_⟩; conv => whnf) | (refine AW.i64 ari ari ?_; conv => whnf) | (exact rr) | (refine And.intro rfl ?_; conv => whnf) | (refine AB.mk (fun h => ?_) (fun h => ?_) <;> (conv => whnf)))
      refine ANext.mk ⟨k + 1, hlt, by omega, ?_, SubO.nil⟩
      exact hds
theorem eqJobs_p (x : DJobs) (hs : DJobs.small 1048576 x) : PCall av 227 [.agg x.ds, .agg x.ds] (rB true) := by
  refine pcall_of av_ok Tryz.func227 rfl Tryz.call227 Tryz.ntmps227 (congrArg Array.toList Tryz.results227) fun S => ?_; conv => whnf
  have h1 := neI x.index
  have h2 := neI x.time
  have h3 := neI x.holder
  have h4 := neI x.epoch
  have h5 := neI x.til
  repeat' (first | (refine aw0 ?_) | ((first | refine aw1 ?_ | refine aw2 ?_ | refine aw3 ?_ | refine aw4 ?_ | refine aw5 ?_ | refine aw6 ?_ | refine aw7 ?_ | refine aw8 ?_); conv => whnf) | (refine ACall.pure (eqDueS_p x.opens hs) rfl ?_; conv => whnf) | ((first | refine bT ?_ | refine bF ?_); conv => whnf) | (exact rr) | (refine And.intro rfl ?_; conv => whnf) | (refine AB.mk (fun h => ?_) (fun h => ?_) <;> (conv => whnf)))
theorem eqView_p (x : DView) (hs : DView.small 1048576 x) : PCall av 145 [.agg x.ds, .agg x.ds] (rB true) := by
  refine pcall_of av_ok Tryz.func145 rfl Tryz.call145 Tryz.ntmps145 (congrArg Array.toList Tryz.results145) fun S => ?_; conv => whnf
  repeat' (first | (refine aw0 ?_) | ((first | refine aw1 ?_ | refine aw2 ?_ | refine aw3 ?_ | refine aw4 ?_ | refine aw5 ?_ | refine aw6 ?_ | refine aw7 ?_ | refine aw8 ?_); conv => whnf) | (refine ACall.pure (eqJobs_p x.jobs hs) rfl ?_; conv => whnf) | ((first | refine bT ?_ | refine bF ?_); conv => whnf) | (exact rr) | (refine And.intro rfl ?_; conv => whnf) | (refine AB.mk (fun h => ?_) (fun h => ?_) <;> (conv => whnf)))
theorem eqSched_p (x : DSched) (hs : DSched.small 1048576 x) : PCall av 52 [.agg x.ds, .agg x.ds] (rB true) := by
  refine pcall_of av_ok Tryz.func52 rfl Tryz.call52 Tryz.ntmps52 (congrArg Array.toList Tryz.results52) fun S => ?_; conv => whnf
  have h1 := neI x.id
  have h2 := neI x.seq
  have h4 : (!(x.busy == x.busy)) = false := neB _
  have h6 := neI x.index
  repeat' (first | (refine aw0 ?_) | ((first | refine aw1 ?_ | refine aw2 ?_ | refine aw3 ?_ | refine aw4 ?_ | refine aw5 ?_ | refine aw6 ?_ | refine aw7 ?_ | refine aw8 ?_); conv => whnf) | (refine ACall.pure (eqView_p x.view hs) rfl ?_; conv => whnf) | (refine ACall.pure (eqOp_p x.op ) rfl ?_; conv => whnf) | ((first | refine bT ?_ | refine bF ?_); conv => whnf) | (exact rr) | (refine And.intro rfl ?_; conv => whnf) | (refine AB.mk (fun h => ?_) (fun h => ?_) <;> (conv => whnf)))
theorem eqWant_p (x : DWant) : PCall av 228 [.agg x.ds, .agg x.ds] (rB true) := by
  refine pcall_of av_ok Tryz.func228 rfl Tryz.call228 Tryz.ntmps228 (congrArg Array.toList Tryz.results228) fun S => ?_; conv => whnf
  have h1 := neI x.kind
  have h3 := neI x.key
  repeat' (first | (refine aw0 ?_) | ((first | refine aw1 ?_ | refine aw2 ?_ | refine aw3 ?_ | refine aw4 ?_ | refine aw5 ?_ | refine aw6 ?_ | refine aw7 ?_ | refine aw8 ?_); conv => whnf) | (refine ACall.pure (eqOp_p x.op ) rfl ?_; conv => whnf) | ((first | refine bT ?_ | refine bF ?_); conv => whnf) | (exact rr) | (refine And.intro rfl ?_; conv => whnf) | (refine AB.mk (fun h => ?_) (fun h => ?_) <;> (conv => whnf)))
theorem eqWantS_p (l : (List DWant)) (hs : l.length ≤ 1048576) : PCall av 147 [.one (.sl (l.map DWant.ds)), .one (.sl (l.map DWant.ds))] (rB true) := by
  have hl : l.length ≤ 1048576 := hs
  refine pcall_of av_ok Tryz.func147 rfl Tryz.call147 Tryz.ntmps147 (congrArg Array.toList Tryz.results147) fun S => ?_; conv => whnf
  have h0 : (((l.map DWant.ds).length : Int) != ((l.map DWant.ds).length : Int)) = false := neI _
  repeat' (first | (refine aw0 ?_) | ((first | refine aw1 ?_ | refine aw2 ?_ | refine aw3 ?_ | refine aw4 ?_ | refine aw5 ?_ | refine aw6 ?_ | refine aw7 ?_ | refine aw8 ?_); conv => whnf) | ((first | refine bT ?_ | refine bF ?_); conv => whnf) | (exact rr) | (refine And.intro rfl ?_; conv => whnf) | (refine AB.mk (fun h => ?_) (fun h => ?_) <;> (conv => whnf)))
  refine AWP.loopS (fun k : Nat => k ≤ l.length) [4, 5, 11, 12, 13, 14, 15, 16, 17, 18, 19, 20, 21, 22, 23, 24, 25, 26] (fun k => [(5, vI .i64 (k : Int))]) (fun k => []) (fun k => l.length - k) 0 (by omega) ?_ SubO.nil (fun k hR => ?_) <;> (conv => whnf)
  · exact whd
  · repeat' (first | (refine aw0 ?_) | ((first | refine aw1 ?_ | refine aw2 ?_ | refine aw3 ?_ | refine aw4 ?_ | refine aw5 ?_ | refine aw6 ?_ | refine aw7 ?_ | refine aw8 ?_); conv => whnf) | ((first | refine bT ?_ | refine bF ?_); conv => whnf) | (exact rr) | (refine And.intro rfl ?_; conv => whnf) | (refine AB.mk (fun h => ?_) (fun h => ?_) <;> (conv => whnf)))
    · have hlt : k < l.length := ari
      (refine AWP.drawK av_ok 6 8 dk_WEq_laws_eqWantS_6 fk_WEq_laws_eqWantS_6 (by kernel_rfl) (by kernel_rfl) (by kernel_rfl) rfl ?_; conv => whnf)
      repeat' (first | (refine aw0 ?_) | ((first | refine aw1 ?_ | refine aw2 ?_ | refine aw3 ?_ | refine aw4 ?_ | refine aw5 ?_ | refine aw6 ?_ | refine aw7 ?_ | refine aw8 ?_); conv => whnf) | ((first | refine bT ?_ | refine bF ?_); conv => whnf) | (refine AIx.map hlt ?_; conv => whnf) | (refine ACall.pure (eqWant_p _ ) rfl ?_; conv => whnf) | (refine AFCall.mk ⟨_, _, eqWant_p _ , .inl rfl, ?_⟩; conv => whnf) | (refine AW.i64 ari ari ?_; conv => whnf) | (exact rr) | (refine And.intro rfl ?_; conv => whnf) | (refine AB.mk (fun h => ?_) (fun h => ?_) <;> (conv => whnf)))
      refine ANext.mk ⟨k + 1, hlt, by omega, ?_, SubO.nil⟩
      exact hds
theorem eqGot_p (x : DGot) : PCall av 229 [.agg x.ds, .agg x.ds] (rB true) := by
  refine pcall_of av_ok Tryz.func229 rfl Tryz.call229 Tryz.ntmps229 (congrArg Array.toList Tryz.results229) fun S => ?_; conv => whnf
  have h1 := neI x.seq
  have h2 := neI x.index
  have h3 := neI x.has
  have h4 := neI x.value
  repeat' (first | (refine aw0 ?_) | ((first | refine aw1 ?_ | refine aw2 ?_ | refine aw3 ?_ | refine aw4 ?_ | refine aw5 ?_ | refine aw6 ?_ | refine aw7 ?_ | refine aw8 ?_); conv => whnf) | ((first | refine bT ?_ | refine bF ?_); conv => whnf) | (exact rr) | (refine And.intro rfl ?_; conv => whnf) | (refine AB.mk (fun h => ?_) (fun h => ?_) <;> (conv => whnf)))
theorem eqGotS_p (l : (List DGot)) (hs : l.length ≤ 1048576) : PCall av 148 [.one (.sl (l.map DGot.ds)), .one (.sl (l.map DGot.ds))] (rB true) := by
  have hl : l.length ≤ 1048576 := hs
  refine pcall_of av_ok Tryz.func148 rfl Tryz.call148 Tryz.ntmps148 (congrArg Array.toList Tryz.results148) fun S => ?_; conv => whnf
  have h0 : (((l.map DGot.ds).length : Int) != ((l.map DGot.ds).length : Int)) = false := neI _
  repeat' (first | (refine aw0 ?_) | ((first | refine aw1 ?_ | refine aw2 ?_ | refine aw3 ?_ | refine aw4 ?_ | refine aw5 ?_ | refine aw6 ?_ | refine aw7 ?_ | refine aw8 ?_); conv => whnf) | ((first | refine bT ?_ | refine bF ?_); conv => whnf) | (exact rr) | (refine And.intro rfl ?_; conv => whnf) | (refine AB.mk (fun h => ?_) (fun h => ?_) <;> (conv => whnf)))
  refine AWP.loopS (fun k : Nat => k ≤ l.length) [4, 5, 11, 12, 13, 14, 15, 16, 17, 18, 19, 20, 21, 22, 23, 24, 25, 26] (fun k => [(5, vI .i64 (k : Int))]) (fun k => []) (fun k => l.length - k) 0 (by omega) ?_ SubO.nil (fun k hR => ?_) <;> (conv => whnf)
  · exact whd
  · repeat' (first | (refine aw0 ?_) | ((first | refine aw1 ?_ | refine aw2 ?_ | refine aw3 ?_ | refine aw4 ?_ | refine aw5 ?_ | refine aw6 ?_ | refine aw7 ?_ | refine aw8 ?_); conv => whnf) | ((first | refine bT ?_ | refine bF ?_); conv => whnf) | (exact rr) | (refine And.intro rfl ?_; conv => whnf) | (refine AB.mk (fun h => ?_) (fun h => ?_) <;> (conv => whnf)))
    · have hlt : k < l.length := ari
      (refine AWP.drawK av_ok 6 8 dk_WEq_laws_eqGotS_6 fk_WEq_laws_eqGotS_6 (by kernel_rfl) (by kernel_rfl) (by kernel_rfl) rfl ?_; conv => whnf)
      repeat' (first | (refine aw0 ?_) | ((first | refine aw1 ?_ | refine aw2 ?_ | refine aw3 ?_ | refine aw4 ?_ | refine aw5 ?_ | refine aw6 ?_ | refine aw7 ?_ | refine aw8 ?_); conv => whnf) | ((first | refine bT ?_ | refine bF ?_); conv => whnf) | (refine AIx.map hlt ?_; conv => whnf) | (refine ACall.pure (eqGot_p _ ) rfl ?_; conv => whnf) | (refine AFCall.mk ⟨_, _, eqGot_p _ , .inl rfl, ?_⟩; conv => whnf) | (refine AW.i64 ari ari ?_; conv => whnf) | (exact rr) | (refine And.intro rfl ?_; conv => whnf) | (refine AB.mk (fun h => ?_) (fun h => ?_) <;> (conv => whnf)))
      refine ANext.mk ⟨k + 1, hlt, by omega, ?_, SubO.nil⟩
      exact hds
theorem eqClient_p (x : DClient) (hs : DClient.small 1048576 x) : PCall av 53 [.agg x.ds, .agg x.ds] (rB true) := by
  refine pcall_of av_ok Tryz.func53 rfl Tryz.call53 Tryz.ntmps53 (congrArg Array.toList Tryz.results53) fun S => ?_; conv => whnf
  have h1 := neI x.id
  have h4 := neI x.last
  repeat' (first | (refine aw0 ?_) | ((first | refine aw1 ?_ | refine aw2 ?_ | refine aw3 ?_ | refine aw4 ?_ | refine aw5 ?_ | refine aw6 ?_ | refine aw7 ?_ | refine aw8 ?_); conv => whnf) | (refine ACall.pure (eqWantS_p x.todo hs.1) rfl ?_; conv => whnf) | (refine ACall.pure (eqGotS_p x.gots hs.2) rfl ?_; conv => whnf) | ((first | refine bT ?_ | refine bF ?_); conv => whnf) | (exact rr) | (refine And.intro rfl ?_; conv => whnf) | (refine AB.mk (fun h => ?_) (fun h => ?_) <;> (conv => whnf)))
theorem eqMsg_p (x : DMsg) (hs : DMsg.small 1048576 x) : PCall av 230 [.agg x.ds, .agg x.ds] (rB true) := by
  refine pcall_of av_ok Tryz.func230 rfl Tryz.call230 Tryz.ntmps230 (congrArg Array.toList Tryz.results230) fun S => ?_; conv => whnf
  have h1 := neI x.frm
  have h2 := neI x.to_
  repeat' (first | (refine aw0 ?_) | ((first | refine aw1 ?_ | refine aw2 ?_ | refine aw3 ?_ | refine aw4 ?_ | refine aw5 ?_ | refine aw6 ?_ | refine aw7 ?_ | refine aw8 ?_); conv => whnf) | (refine ACall.pure (eqInt64S_p x.row hs) rfl ?_; conv => whnf) | ((first | refine bT ?_ | refine bF ?_); conv => whnf) | (exact rr) | (refine And.intro rfl ?_; conv => whnf) | (refine AB.mk (fun h => ?_) (fun h => ?_) <;> (conv => whnf)))
theorem eqMsgS_p (l : (List DMsg)) (hs : l.length ≤ 1048576 ∧ ∀ y ∈ l, DMsg.small 1048576 y) : PCall av 149 [.one (.sl (l.map DMsg.ds)), .one (.sl (l.map DMsg.ds))] (rB true) := by
  have hl : l.length ≤ 1048576 := hs.1
  refine pcall_of av_ok Tryz.func149 rfl Tryz.call149 Tryz.ntmps149 (congrArg Array.toList Tryz.results149) fun S => ?_; conv => whnf
  have h0 : (((l.map DMsg.ds).length : Int) != ((l.map DMsg.ds).length : Int)) = false := neI _
  repeat' (first | (refine aw0 ?_) | ((first | refine aw1 ?_ | refine aw2 ?_ | refine aw3 ?_ | refine aw4 ?_ | refine aw5 ?_ | refine aw6 ?_ | refine aw7 ?_ | refine aw8 ?_); conv => whnf) | ((first | refine bT ?_ | refine bF ?_); conv => whnf) | (exact rr) | (refine And.intro rfl ?_; conv => whnf) | (refine AB.mk (fun h => ?_) (fun h => ?_) <;> (conv => whnf)))
  refine AWP.loopS (fun k : Nat => k ≤ l.length) [4, 5, 11, 12, 13, 14, 15, 16, 17, 18, 19, 20, 21, 22, 23, 24, 25, 26] (fun k => [(5, vI .i64 (k : Int))]) (fun k => []) (fun k => l.length - k) 0 (by omega) ?_ SubO.nil (fun k hR => ?_) <;> (conv => whnf)
  · exact whd
  · repeat' (first | (refine aw0 ?_) | ((first | refine aw1 ?_ | refine aw2 ?_ | refine aw3 ?_ | refine aw4 ?_ | refine aw5 ?_ | refine aw6 ?_ | refine aw7 ?_ | refine aw8 ?_); conv => whnf) | ((first | refine bT ?_ | refine bF ?_); conv => whnf) | (exact rr) | (refine And.intro rfl ?_; conv => whnf) | (refine AB.mk (fun h => ?_) (fun h => ?_) <;> (conv => whnf)))
    · have hlt : k < l.length := ari
      (refine AWP.drawK av_ok 6 8 dk_WEq_laws_eqMsgS_6 fk_WEq_laws_eqMsgS_6 (by kernel_rfl) (by kernel_rfl) (by kernel_rfl) rfl ?_; conv => whnf)
      repeat' (first | (refine aw0 ?_) | ((first | refine aw1 ?_ | refine aw2 ?_ | refine aw3 ?_ | refine aw4 ?_ | refine aw5 ?_ | refine aw6 ?_ | refine aw7 ?_ | refine aw8 ?_); conv => whnf) | ((first | refine bT ?_ | refine bF ?_); conv => whnf) | (refine AIx.map hlt ?_; conv => whnf) | (refine ACall.pure (eqMsg_p _ (hs.2 _ (List.getElem_mem hlt))) rfl ?_; conv => whnf) | (refine AFCall.mk ⟨_, _, eqMsg_p _ (hs.2 _ (List.getElem_mem hlt)), .inl rfl, ?_⟩; conv => whnf) | (refine AW.i64 ari ari ?_; conv => whnf) | (exact rr) | (refine And.intro rfl ?_; conv => whnf) | (refine AB.mk (fun h => ?_) (fun h => ?_) <;> (conv => whnf)))
      refine ANext.mk ⟨k + 1, hlt, by omega, ?_, SubO.nil⟩
      exact hds
theorem eqLink_p (x : DLink) : PCall av 231 [.agg x.ds, .agg x.ds] (rB true) := by
  refine pcall_of av_ok Tryz.func231 rfl Tryz.call231 Tryz.ntmps231 (congrArg Array.toList Tryz.results231) fun S => ?_; conv => whnf
  have h1 := neI x.a
  have h2 := neI x.b
  repeat' (first | (refine aw0 ?_) | ((first | refine aw1 ?_ | refine aw2 ?_ | refine aw3 ?_ | refine aw4 ?_ | refine aw5 ?_ | refine aw6 ?_ | refine aw7 ?_ | refine aw8 ?_); conv => whnf) | ((first | refine bT ?_ | refine bF ?_); conv => whnf) | (exact rr) | (refine And.intro rfl ?_; conv => whnf) | (refine AB.mk (fun h => ?_) (fun h => ?_) <;> (conv => whnf)))
theorem eqLinkS_p (l : (List DLink)) (hs : l.length ≤ 1048576) : PCall av 150 [.one (.sl (l.map DLink.ds)), .one (.sl (l.map DLink.ds))] (rB true) := by
  have hl : l.length ≤ 1048576 := hs
  refine pcall_of av_ok Tryz.func150 rfl Tryz.call150 Tryz.ntmps150 (congrArg Array.toList Tryz.results150) fun S => ?_; conv => whnf
  have h0 : (((l.map DLink.ds).length : Int) != ((l.map DLink.ds).length : Int)) = false := neI _
  repeat' (first | (refine aw0 ?_) | ((first | refine aw1 ?_ | refine aw2 ?_ | refine aw3 ?_ | refine aw4 ?_ | refine aw5 ?_ | refine aw6 ?_ | refine aw7 ?_ | refine aw8 ?_); conv => whnf) | ((first | refine bT ?_ | refine bF ?_); conv => whnf) | (exact rr) | (refine And.intro rfl ?_; conv => whnf) | (refine AB.mk (fun h => ?_) (fun h => ?_) <;> (conv => whnf)))
  refine AWP.loopS (fun k : Nat => k ≤ l.length) [4, 5, 11, 12, 13, 14, 15, 16, 17, 18, 19, 20, 21, 22, 23, 24, 25, 26] (fun k => [(5, vI .i64 (k : Int))]) (fun k => []) (fun k => l.length - k) 0 (by omega) ?_ SubO.nil (fun k hR => ?_) <;> (conv => whnf)
  · exact whd
  · repeat' (first | (refine aw0 ?_) | ((first | refine aw1 ?_ | refine aw2 ?_ | refine aw3 ?_ | refine aw4 ?_ | refine aw5 ?_ | refine aw6 ?_ | refine aw7 ?_ | refine aw8 ?_); conv => whnf) | ((first | refine bT ?_ | refine bF ?_); conv => whnf) | (exact rr) | (refine And.intro rfl ?_; conv => whnf) | (refine AB.mk (fun h => ?_) (fun h => ?_) <;> (conv => whnf)))
    · have hlt : k < l.length := ari
      (refine AWP.drawK av_ok 6 8 dk_WEq_laws_eqLinkS_6 fk_WEq_laws_eqLinkS_6 (by kernel_rfl) (by kernel_rfl) (by kernel_rfl) rfl ?_; conv => whnf)
      repeat' (first | (refine aw0 ?_) | ((first | refine aw1 ?_ | refine aw2 ?_ | refine aw3 ?_ | refine aw4 ?_ | refine aw5 ?_ | refine aw6 ?_ | refine aw7 ?_ | refine aw8 ?_); conv => whnf) | ((first | refine bT ?_ | refine bF ?_); conv => whnf) | (refine AIx.map hlt ?_; conv => whnf) | (refine ACall.pure (eqLink_p _ ) rfl ?_; conv => whnf) | (refine AFCall.mk ⟨_, _, eqLink_p _ , .inl rfl, ?_⟩; conv => whnf) | (refine AW.i64 ari ari ?_; conv => whnf) | (exact rr) | (refine And.intro rfl ?_; conv => whnf) | (refine AB.mk (fun h => ?_) (fun h => ?_) <;> (conv => whnf)))
      refine ANext.mk ⟨k + 1, hlt, by omega, ?_, SubO.nil⟩
      exact hds
theorem eqNet_p (x : DNet) (hs : DNet.small 1048576 x) : PCall av 54 [.agg x.ds, .agg x.ds] (rB true) := by
  refine pcall_of av_ok Tryz.func54 rfl Tryz.call54 Tryz.ntmps54 (congrArg Array.toList Tryz.results54) fun S => ?_; conv => whnf
  repeat' (first | (refine aw0 ?_) | ((first | refine aw1 ?_ | refine aw2 ?_ | refine aw3 ?_ | refine aw4 ?_ | refine aw5 ?_ | refine aw6 ?_ | refine aw7 ?_ | refine aw8 ?_); conv => whnf) | (refine ACall.pure (eqMsgS_p x.flight ⟨hs.1, hs.2.1⟩) rfl ?_; conv => whnf) | (refine ACall.pure (eqLinkS_p x.cuts hs.2.2) rfl ?_; conv => whnf) | ((first | refine bT ?_ | refine bF ?_); conv => whnf) | (exact rr) | (refine And.intro rfl ?_; conv => whnf) | (refine AB.mk (fun h => ?_) (fun h => ?_) <;> (conv => whnf)))
theorem eqBoolS_p (l : (List Bool)) (hs : l.length ≤ 1048576) : PCall av 55 [.one (.sl (l.map eB)), .one (.sl (l.map eB))] (rB true) := by
  have hl : l.length ≤ 1048576 := hs
  refine pcall_of av_ok Tryz.func55 rfl Tryz.call55 Tryz.ntmps55 (congrArg Array.toList Tryz.results55) fun S => ?_; conv => whnf
  have h0 : (((l.map eB).length : Int) != ((l.map eB).length : Int)) = false := neI _
  repeat' (first | (refine aw0 ?_) | ((first | refine aw1 ?_ | refine aw2 ?_ | refine aw3 ?_ | refine aw4 ?_ | refine aw5 ?_ | refine aw6 ?_ | refine aw7 ?_ | refine aw8 ?_); conv => whnf) | ((first | refine bT ?_ | refine bF ?_); conv => whnf) | (exact rr) | (refine And.intro rfl ?_; conv => whnf) | (refine AB.mk (fun h => ?_) (fun h => ?_) <;> (conv => whnf)))
  refine AWP.loopS (fun k : Nat => k ≤ l.length) [4, 5, 11, 12, 13, 14, 15, 16, 17, 18, 19, 20, 21, 22, 23, 24, 25] (fun k => [(5, vI .i64 (k : Int))]) (fun k => []) (fun k => l.length - k) 0 (by omega) ?_ SubO.nil (fun k hR => ?_) <;> (conv => whnf)
  · exact whd
  · repeat' (first | (refine aw0 ?_) | ((first | refine aw1 ?_ | refine aw2 ?_ | refine aw3 ?_ | refine aw4 ?_ | refine aw5 ?_ | refine aw6 ?_ | refine aw7 ?_ | refine aw8 ?_); conv => whnf) | ((first | refine bT ?_ | refine bF ?_); conv => whnf) | (exact rr) | (refine And.intro rfl ?_; conv => whnf) | (refine AB.mk (fun h => ?_) (fun h => ?_) <;> (conv => whnf)))
    · have hlt : k < l.length := ari
      have hne : (!(l[k] == l[k])) = false := neB _
      (refine AWP.drawK av_ok 6 8 dk_WEq_laws_eqBoolS_6 fk_WEq_laws_eqBoolS_6 (by kernel_rfl) (by kernel_rfl) (by kernel_rfl) rfl ?_; conv => whnf)
      repeat' (first | (refine aw0 ?_) | ((first | refine aw1 ?_ | refine aw2 ?_ | refine aw3 ?_ | refine aw4 ?_ | refine aw5 ?_ | refine aw6 ?_ | refine aw7 ?_ | refine aw8 ?_); conv => whnf) | ((first | refine bT ?_ | refine bF ?_); conv => whnf) | (refine AIx.map hlt ?_; conv => whnf) | (refine AW.i64 ari ari ?_; conv => whnf) | (exact rr) | (refine And.intro rfl ?_; conv => whnf) | (refine AB.mk (fun h => ?_) (fun h => ?_) <;> (conv => whnf)))
      refine ANext.mk ⟨k + 1, hlt, by omega, ?_, SubO.nil⟩
      exact hds
theorem eqWorld_p (x : DWorld) (hs : DWorld.small 1048576 x) : PCall av 14 [.agg x.ds, .agg x.ds] (rB true) := by
  refine pcall_of av_ok Tryz.func14 rfl Tryz.call14 Tryz.ntmps14 (congrArg Array.toList Tryz.results14) fun S => ?_; conv => whnf
  repeat' (first | (refine aw0 ?_) | ((first | refine aw1 ?_ | refine aw2 ?_ | refine aw3 ?_ | refine aw4 ?_ | refine aw5 ?_ | refine aw6 ?_ | refine aw7 ?_ | refine aw8 ?_); conv => whnf) | (refine ACall.pure (eqLogNode_p x.log hs.1) rfl ?_; conv => whnf) | (refine ACall.pure (eqStore_p x.store hs.2.1) rfl ?_; conv => whnf) | (refine ACall.pure (eqSched_p x.left hs.2.2.1) rfl ?_; conv => whnf) | (refine ACall.pure (eqSched_p x.right hs.2.2.2.1) rfl ?_; conv => whnf) | (refine ACall.pure (eqClient_p x.ann hs.2.2.2.2.1) rfl ?_; conv => whnf) | (refine ACall.pure (eqClient_p x.bob hs.2.2.2.2.2.1) rfl ?_; conv => whnf) | (refine ACall.pure (eqNet_p x.net hs.2.2.2.2.2.2.1) rfl ?_; conv => whnf) | (refine ACall.pure (eqInt64S_p x.clocks hs.2.2.2.2.2.2.2.1) rfl ?_; conv => whnf) | (refine ACall.pure (eqBoolS_p x.up hs.2.2.2.2.2.2.2.2) rfl ?_; conv => whnf) | ((first | refine bT ?_ | refine bF ?_); conv => whnf) | (exact rr) | (refine And.intro rfl ?_; conv => whnf) | (refine AB.mk (fun h => ?_) (fun h => ?_) <;> (conv => whnf)))
end Go.Proofs.YtmgcnmdbhahhlaaGreat
namespace Go.Proofs.YtmgcnmdbhahhlaaGreat
open Go.ChangeShapes Go.WideShapes Go.RowKit

theorem rI_of {a b : Int} (h : a = b) : AP.val (.one (dI a)) = rI b := by rw [h]
theorem ACall.sz {E : AEnv} {S : Base} {f : FuncId} {args : List AV} {st : ASt} {K : AV → ASt → Prop} {p : AP1} {left a : Int} (hc : PCall E f [p, pI left] (rI (max (left - a) (-1)))) (hps : aPs args (· = [p, pI left]))
    (h1 : decide (left - a < 0) = true → K (vI .i64 (-1)) st) (h2 : decide (left - a < 0) = false → K (vI .i64 (left - a)) st) : ACall E S f args st K := by
  refine ACall.pure hc hps ?_
  cases h : decide (left - a < 0) with
  | true =>
    have e : max (left - a) (-1) = -1 := by simp only [decide_eq_true_eq] at h; omega
    rw [e]; exact h1 h
  | false =>
    have e : max (left - a) (-1) = left - a := by simp only [decide_eq_false_iff_not] at h; omega
    rw [e]; exact h2 h
def cntS {α : Type} (f : α → Nat) : List α → Nat
  | [] => 0
  | x :: r => 1 + f x + cntS f r
theorem cntS_len {α : Type} (f : α → Nat) : ∀ l : List α, l.length ≤ cntS f l
  | [] => Nat.le_refl _
  | x :: r => by have := cntS_len f r; simp only [List.length_cons, cntS]; omega
theorem cntS_mem {α : Type} {f : α → Nat} : ∀ {l : List α} {y : α}, y ∈ l → f y ≤ cntS f l
  | x :: r, y, h => by
    rcases List.mem_cons.1 h with rfl | h
    · simp only [cntS]; omega
    · have := cntS_mem (f := f) h; simp only [cntS]; omega
theorem cntS_take {α : Type} (f : α → Nat) : ∀ (l : List α) (k : Nat), (l.length : Int) - (l.take k).length + cntS f (l.take k) ≤ cntS f l
  | [], k => by simp [cntS]
  | x :: r, 0 => by have := cntS_len f (x :: r); simp [cntS] at *; omega
  | x :: r, k + 1 => by have := cntS_take f r k; simp only [List.take_succ_cons, List.length_cons, cntS] at *; omega
theorem cntS_succ {α : Type} (f : α → Nat) : ∀ (l : List α) (k : Nat) (h : k < l.length), cntS f (l.take (k + 1)) = cntS f (l.take k) + 1 + f l[k]
  | x :: r, 0, h => by simp [cntS]
  | x :: r, k + 1, h => by
    have := cntS_succ f r k (by simpa using h)
    simp only [List.take_succ_cons, cntS, List.getElem_cons_succ] at *
    omega

def DWrite.cnt (x : DWrite) : Nat := x.row.length
theorem DWrite.cnt_small {x : DWrite} {n : Nat} (h : x.cnt ≤ n) : DWrite.small n x := by
  unfold DWrite.cnt at h
  unfold DWrite.small
  exact (by omega)
def DDisk.cnt (x : DDisk) : Nat := cntS (fun l => l.length) x.kept + cntS DWrite.cnt x.wait
theorem DDisk.cnt_small {x : DDisk} {n : Nat} (h : x.cnt ≤ n) : DDisk.small n x := by
  unfold DDisk.cnt at h
  unfold DDisk.small
  exact ⟨(by have := cntS_len (fun l => l.length) x.kept; omega), (fun y hy => (by have : y.length ≤ _ := cntS_mem (f := (fun l => l.length)) hy; omega)), (by have := cntS_len DWrite.cnt x.wait; omega), (fun y hy => DWrite.cnt_small (by have := cntS_mem (f := DWrite.cnt) hy; omega))⟩
def DTwo.cnt (x : DTwo) : Nat := DDisk.cnt x.a + DDisk.cnt x.b
theorem DTwo.cnt_small {x : DTwo} {n : Nat} (h : x.cnt ≤ n) : DTwo.small n x := by
  unfold DTwo.cnt at h
  unfold DTwo.small
  exact ⟨(DDisk.cnt_small (by omega)), (DDisk.cnt_small (by omega))⟩
def DHead.cnt (x : DHead) : Nat := x.seen.length
theorem DHead.cnt_small {x : DHead} {n : Nat} (h : x.cnt ≤ n) : DHead.small n x := by
  unfold DHead.cnt at h
  unfold DHead.small
  exact (by omega)
def DBook.cnt (x : DBook) : Nat := x.entries.length
theorem DBook.cnt_small {x : DBook} {n : Nat} (h : x.cnt ≤ n) : DBook.small n x := by
  unfold DBook.cnt at h
  unfold DBook.small
  exact (by omega)
def DLogNode.cnt (x : DLogNode) : Nat := DTwo.cnt x.two + DHead.cnt x.head + DHead.cnt x.nxt + DBook.cnt x.book + x.seen.length + x.owe.length
theorem DLogNode.cnt_small {x : DLogNode} {n : Nat} (h : x.cnt ≤ n) : DLogNode.small n x := by
  unfold DLogNode.cnt at h
  unfold DLogNode.small
  exact ⟨(DTwo.cnt_small (by omega)), (DHead.cnt_small (by omega)), (DHead.cnt_small (by omega)), (DBook.cnt_small (by omega)), (by omega), (by omega)⟩
def DState.cnt (x : DState) : Nat := x.pairs.length + x.jobs.length
theorem DState.cnt_small {x : DState} {n : Nat} (h : x.cnt ≤ n) : DState.small n x := by
  unfold DState.cnt at h
  unfold DState.small
  exact ⟨(by omega), (by omega)⟩
def DStore.cnt (x : DStore) : Nat := DDisk.cnt x.disk + DState.cnt x.state
theorem DStore.cnt_small {x : DStore} {n : Nat} (h : x.cnt ≤ n) : DStore.small n x := by
  unfold DStore.cnt at h
  unfold DStore.small
  exact ⟨(DDisk.cnt_small (by omega)), (DState.cnt_small (by omega))⟩
def DJobs.cnt (x : DJobs) : Nat := x.opens.length
theorem DJobs.cnt_small {x : DJobs} {n : Nat} (h : x.cnt ≤ n) : DJobs.small n x := by
  unfold DJobs.cnt at h
  unfold DJobs.small
  exact (by omega)
def DView.cnt (x : DView) : Nat := DJobs.cnt x.jobs
theorem DView.cnt_small {x : DView} {n : Nat} (h : x.cnt ≤ n) : DView.small n x := by
  unfold DView.cnt at h
  unfold DView.small
  exact (DJobs.cnt_small (by omega))
def DSched.cnt (x : DSched) : Nat := DView.cnt x.view
theorem DSched.cnt_small {x : DSched} {n : Nat} (h : x.cnt ≤ n) : DSched.small n x := by
  unfold DSched.cnt at h
  unfold DSched.small
  exact (DView.cnt_small (by omega))
def DClient.cnt (x : DClient) : Nat := x.todo.length + x.gots.length
theorem DClient.cnt_small {x : DClient} {n : Nat} (h : x.cnt ≤ n) : DClient.small n x := by
  unfold DClient.cnt at h
  unfold DClient.small
  exact ⟨(by omega), (by omega)⟩
def DMsg.cnt (x : DMsg) : Nat := x.row.length
theorem DMsg.cnt_small {x : DMsg} {n : Nat} (h : x.cnt ≤ n) : DMsg.small n x := by
  unfold DMsg.cnt at h
  unfold DMsg.small
  exact (by omega)
def DNet.cnt (x : DNet) : Nat := cntS DMsg.cnt x.flight + x.cuts.length
theorem DNet.cnt_small {x : DNet} {n : Nat} (h : x.cnt ≤ n) : DNet.small n x := by
  unfold DNet.cnt at h
  unfold DNet.small
  exact ⟨(by have := cntS_len DMsg.cnt x.flight; omega), (fun y hy => DMsg.cnt_small (by have := cntS_mem (f := DMsg.cnt) hy; omega)), (by omega)⟩
def DWorld.cnt (x : DWorld) : Nat := DLogNode.cnt x.log + DStore.cnt x.store + DSched.cnt x.left + DSched.cnt x.right + DClient.cnt x.ann + DClient.cnt x.bob + DNet.cnt x.net + x.clocks.length + x.up.length
theorem DWorld.cnt_small {x : DWorld} {n : Nat} (h : x.cnt ≤ n) : DWorld.small n x := by
  unfold DWorld.cnt at h
  unfold DWorld.small
  exact ⟨(DLogNode.cnt_small (by omega)), (DStore.cnt_small (by omega)), (DSched.cnt_small (by omega)), (DSched.cnt_small (by omega)), (DClient.cnt_small (by omega)), (DClient.cnt_small (by omega)), (DNet.cnt_small (by omega)), (by omega), (by omega)⟩
theorem szInt64S_p (l : (List Int)) (left : Int) (h0 : 0 ≤ left) (h1 : left ≤ 1048576) (hs : l.length ≤ 9223372036854775807) : PCall av 33 [.one (.sl (l.map eI)), pI left] (rI (max (left - l.length) (-1))) := by
  refine pcall_of av_ok Tryz.func33 rfl Tryz.call33 Tryz.ntmps33 (congrArg Array.toList Tryz.results33) fun S => ?_; conv => whnf
  repeat' (first | (refine aw0 ?_) | ((first | refine aw1 ?_ | refine aw2 ?_ | refine aw3 ?_ | refine aw4 ?_ | refine aw5 ?_ | refine aw6 ?_ | refine aw7 ?_ | refine aw8 ?_); conv => whnf) | (refine AW.i64 (n := _ - _) (by first | omega | (simp only [decide_eq_true_eq, decide_eq_false_iff_not, List.length_map] at *; omega)) (by first | omega | (simp only [decide_eq_true_eq, decide_eq_false_iff_not, List.length_map] at *; omega)) ?_; conv => whnf) | ((first | refine bT ?_ | refine bF ?_); conv => whnf) | (exact rr) | (refine And.intro rfl ?_; conv => whnf) | (refine AB.mk (fun h => ?_) (fun h => ?_) <;> (conv => whnf)))
  all_goals
    refine rI_of ?_
    simp only [decide_eq_true_eq, decide_eq_false_iff_not, List.length_map] at *
    omega
theorem szInt64SS_p (l : (List (List Int))) (left : Int) (h0 : 0 ≤ left) (h1 : left ≤ 1048576) (hs : l.length ≤ 9223372036854775807 ∧ ∀ y ∈ l, y.length ≤ 9223372036854775807) : PCall av 176 [.one (.sl (l.map eIIw)), pI left] (rI (max (left - cntS (fun l => l.length) l) (-1))) := by
  refine pcall_of av_ok Tryz.func176 rfl Tryz.call176 Tryz.ntmps176 (congrArg Array.toList Tryz.results176) fun S => ?_; conv => whnf
  have hlen := hs.1
  have hcl := cntS_len (fun l => l.length) l
  repeat' (first | (refine aw0 ?_) | ((first | refine aw1 ?_ | refine aw2 ?_ | refine aw3 ?_ | refine aw4 ?_ | refine aw5 ?_ | refine aw6 ?_ | refine aw7 ?_ | refine aw8 ?_); conv => whnf) | (refine AW.i64 (n := _ - _) (by first | omega | (simp only [decide_eq_true_eq, decide_eq_false_iff_not, List.length_map] at *; omega)) (by first | omega | (simp only [decide_eq_true_eq, decide_eq_false_iff_not, List.length_map] at *; omega)) ?_; conv => whnf) | ((first | refine bT ?_ | refine bF ?_); conv => whnf) | (exact rr) | (refine And.intro rfl ?_; conv => whnf) | (refine AB.mk (fun h => ?_) (fun h => ?_) <;> (conv => whnf)))
  · refine rI_of ?_
    simp only [decide_eq_true_eq, decide_eq_false_iff_not, List.length_map] at *
    omega
  refine AWP.loopS (fun p : Nat × Int => p.1 ≤ l.length ∧ 0 ≤ p.2 ∧ p.2 = left - l.length + (p.1 : Int) - cntS (fun l => l.length) (l.take p.1)) [1, 4, 5, 12, 13, 14, 15, 16, 17, 18, 19, 20, 21, 22, 23, 24, 25] (fun p => [(1, vI .i64 p.2), (5, vI .i64 (p.1 : Int))]) (fun _ => []) (fun p => l.length - p.1) (0, left - ((l.map eIIw).length : Int)) ⟨by simp, (by first | omega | (simp only [decide_eq_true_eq, decide_eq_false_iff_not, List.length_map] at *; omega)), by simp [cntS]⟩ ?_ SubO.nil (fun p hR => ?_) <;> (conv => whnf)
  · exact whd
  · obtain ⟨k, v⟩ := p
    obtain ⟨hk, hv, he⟩ := hR
    simp only at hk hv he
    have htk := cntS_take (fun l => l.length) l k
    have htl : (l.take k).length = k := by simp; omega
    repeat' (first | (refine aw0 ?_) | ((first | refine aw1 ?_ | refine aw2 ?_ | refine aw3 ?_ | refine aw4 ?_ | refine aw5 ?_ | refine aw6 ?_ | refine aw7 ?_ | refine aw8 ?_); conv => whnf) | ((first | refine bT ?_ | refine bF ?_); conv => whnf) | (refine AIx.mapF (by first | omega | (simp only [decide_eq_true_eq, decide_eq_false_iff_not, List.length_map] at *; omega)) (fun hlt => ?_); conv => whnf) | (refine ACall.pure (szInt64S_p _ _ hv (by first | omega | (simp only [decide_eq_true_eq, decide_eq_false_iff_not, List.length_map] at *; omega)) (hs.2 _ (List.getElem_mem hlt))) rfl ?_; conv => whnf) | (refine AW.i64 (by first | omega | (simp only [decide_eq_true_eq, decide_eq_false_iff_not, List.length_map] at *; omega)) (by first | omega | (simp only [decide_eq_true_eq, decide_eq_false_iff_not, List.length_map] at *; omega)) ?_; conv => whnf) | (exact rr) | (refine And.intro rfl ?_; conv => whnf) | (refine AB.mk (fun h => ?_) (fun h => ?_) <;> (conv => whnf)))
    all_goals first
      | (have hsu := cntS_succ (fun l => l.length) l k hlt
         have htk := cntS_take (fun l => l.length) l (k + 1)
         have htl : (l.take (k + 1)).length = k + 1 := by simp; omega
         simp only [decide_eq_true_eq, decide_eq_false_iff_not, List.length_map] at *
         first
           | (refine rI_of ?_; omega)
           | (refine ANext.mk ⟨(k + 1, max (v - ((l[k].length : Nat) : Int)) (-1)), ⟨by simp only; omega, by simp only; omega, by simp only; omega⟩, by simp only; omega, ?_, SubO.nil⟩; exact hds))
      | (have hkk : k = l.length := (by first | omega | (simp only [decide_eq_true_eq, decide_eq_false_iff_not, List.length_map] at *; omega))
         subst hkk
         refine rI_of ?_
         rw [List.take_length] at he
         omega)
set_option maxHeartbeats 2000000 in
theorem szWrite_p (x : DWrite) (left : Int) (h0 : 0 ≤ left) (h1 : left ≤ 1048576) (hs : DWrite.small 9223372036854775807 x) : PCall av 242 [.agg x.ds, pI left] (rI (max (left - x.cnt) (-1))) := by
  refine pcall_of av_ok Tryz.func242 rfl Tryz.call242 Tryz.ntmps242 (congrArg Array.toList Tryz.results242) fun S => ?_; conv => whnf
  repeat' (first | (refine aw0 ?_) | ((first | refine aw1 ?_ | refine aw2 ?_ | refine aw3 ?_ | refine aw4 ?_ | refine aw5 ?_ | refine aw6 ?_ | refine aw7 ?_ | refine aw8 ?_); conv => whnf) | ((first | refine bT ?_ | refine bF ?_); conv => whnf) | (refine ACall.sz (szInt64S_p x.row _ (by first | omega | (simp only [decide_eq_true_eq, decide_eq_false_iff_not, List.length_map] at *; omega)) (by first | omega | (simp only [decide_eq_true_eq, decide_eq_false_iff_not, List.length_map] at *; omega)) hs) rfl (fun h => ?_) (fun h => ?_) <;> (conv => whnf)) | (exact rr) | (refine And.intro rfl ?_; conv => whnf) | (refine AB.mk (fun h => ?_) (fun h => ?_) <;> (conv => whnf)))
  all_goals
    refine rI_of ?_
    first
      | omega
      | (simp only [decide_eq_true_eq, decide_eq_false_iff_not, DWrite.cnt] at * <;> omega)
theorem szWriteS_p (l : (List DWrite)) (left : Int) (h0 : 0 ≤ left) (h1 : left ≤ 1048576) (hs : l.length ≤ 9223372036854775807 ∧ ∀ y ∈ l, DWrite.small 9223372036854775807 y) : PCall av 177 [.one (.sl (l.map DWrite.ds)), pI left] (rI (max (left - cntS DWrite.cnt l) (-1))) := by
  refine pcall_of av_ok Tryz.func177 rfl Tryz.call177 Tryz.ntmps177 (congrArg Array.toList Tryz.results177) fun S => ?_; conv => whnf
  have hlen := hs.1
  have hcl := cntS_len DWrite.cnt l
  repeat' (first | (refine aw0 ?_) | ((first | refine aw1 ?_ | refine aw2 ?_ | refine aw3 ?_ | refine aw4 ?_ | refine aw5 ?_ | refine aw6 ?_ | refine aw7 ?_ | refine aw8 ?_); conv => whnf) | (refine AW.i64 (n := _ - _) (by first | omega | (simp only [decide_eq_true_eq, decide_eq_false_iff_not, List.length_map] at *; omega)) (by first | omega | (simp only [decide_eq_true_eq, decide_eq_false_iff_not, List.length_map] at *; omega)) ?_; conv => whnf) | ((first | refine bT ?_ | refine bF ?_); conv => whnf) | (exact rr) | (refine And.intro rfl ?_; conv => whnf) | (refine AB.mk (fun h => ?_) (fun h => ?_) <;> (conv => whnf)))
  · refine rI_of ?_
    simp only [decide_eq_true_eq, decide_eq_false_iff_not, List.length_map] at *
    omega
  refine AWP.loopS (fun p : Nat × Int => p.1 ≤ l.length ∧ 0 ≤ p.2 ∧ p.2 = left - l.length + (p.1 : Int) - cntS DWrite.cnt (l.take p.1)) [1, 4, 5, 12, 13, 14, 15, 16, 17, 18, 19, 20, 21, 22, 23, 24, 25] (fun p => [(1, vI .i64 p.2), (5, vI .i64 (p.1 : Int))]) (fun _ => []) (fun p => l.length - p.1) (0, left - ((l.map DWrite.ds).length : Int)) ⟨by simp, (by first | omega | (simp only [decide_eq_true_eq, decide_eq_false_iff_not, List.length_map] at *; omega)), by simp [cntS]⟩ ?_ SubO.nil (fun p hR => ?_) <;> (conv => whnf)
  · exact whd
  · obtain ⟨k, v⟩ := p
    obtain ⟨hk, hv, he⟩ := hR
    simp only at hk hv he
    have htk := cntS_take DWrite.cnt l k
    have htl : (l.take k).length = k := by simp; omega
    repeat' (first | (refine aw0 ?_) | ((first | refine aw1 ?_ | refine aw2 ?_ | refine aw3 ?_ | refine aw4 ?_ | refine aw5 ?_ | refine aw6 ?_ | refine aw7 ?_ | refine aw8 ?_); conv => whnf) | ((first | refine bT ?_ | refine bF ?_); conv => whnf) | (refine AIx.mapF (by first | omega | (simp only [decide_eq_true_eq, decide_eq_false_iff_not, List.length_map] at *; omega)) (fun hlt => ?_); conv => whnf) | (refine ACall.pure (szWrite_p _ _ hv (by first | omega | (simp only [decide_eq_true_eq, decide_eq_false_iff_not, List.length_map] at *; omega)) (hs.2 _ (List.getElem_mem hlt))) rfl ?_; conv => whnf) | (refine AW.i64 (by first | omega | (simp only [decide_eq_true_eq, decide_eq_false_iff_not, List.length_map] at *; omega)) (by first | omega | (simp only [decide_eq_true_eq, decide_eq_false_iff_not, List.length_map] at *; omega)) ?_; conv => whnf) | (exact rr) | (refine And.intro rfl ?_; conv => whnf) | (refine AB.mk (fun h => ?_) (fun h => ?_) <;> (conv => whnf)))
    all_goals first
      | (have hsu := cntS_succ DWrite.cnt l k hlt
         have htk := cntS_take DWrite.cnt l (k + 1)
         have htl : (l.take (k + 1)).length = k + 1 := by simp; omega
         simp only [decide_eq_true_eq, decide_eq_false_iff_not, List.length_map] at *
         first
           | (refine rI_of ?_; omega)
           | (refine ANext.mk ⟨(k + 1, max (v - ((DWrite.cnt l[k] : Nat) : Int)) (-1)), ⟨by simp only; omega, by simp only; omega, by simp only; omega⟩, by simp only; omega, ?_, SubO.nil⟩; exact hds))
      | (have hkk : k = l.length := (by first | omega | (simp only [decide_eq_true_eq, decide_eq_false_iff_not, List.length_map] at *; omega))
         subst hkk
         refine rI_of ?_
         rw [List.take_length] at he
         omega)
set_option maxHeartbeats 2000000 in
theorem szDisk_p (x : DDisk) (left : Int) (h0 : 0 ≤ left) (h1 : left ≤ 1048576) (hs : DDisk.small 9223372036854775807 x) : PCall av 104 [.agg x.ds, pI left] (rI (max (left - x.cnt) (-1))) := by
  refine pcall_of av_ok Tryz.func104 rfl Tryz.call104 Tryz.ntmps104 (congrArg Array.toList Tryz.results104) fun S => ?_; conv => whnf
  repeat' (first | (refine aw0 ?_) | ((first | refine aw1 ?_ | refine aw2 ?_ | refine aw3 ?_ | refine aw4 ?_ | refine aw5 ?_ | refine aw6 ?_ | refine aw7 ?_ | refine aw8 ?_); conv => whnf) | ((first | refine bT ?_ | refine bF ?_); conv => whnf) | (refine ACall.sz (szInt64SS_p x.kept _ (by first | omega | (simp only [decide_eq_true_eq, decide_eq_false_iff_not, List.length_map] at *; omega)) (by first | omega | (simp only [decide_eq_true_eq, decide_eq_false_iff_not, List.length_map] at *; omega)) ⟨hs.1, hs.2.1⟩) rfl (fun h => ?_) (fun h => ?_) <;> (conv => whnf)) | (refine ACall.sz (szWriteS_p x.wait _ (by first | omega | (simp only [decide_eq_true_eq, decide_eq_false_iff_not, List.length_map] at *; omega)) (by first | omega | (simp only [decide_eq_true_eq, decide_eq_false_iff_not, List.length_map] at *; omega)) ⟨hs.2.2.1, hs.2.2.2⟩) rfl (fun h => ?_) (fun h => ?_) <;> (conv => whnf)) | (exact rr) | (refine And.intro rfl ?_; conv => whnf) | (refine AB.mk (fun h => ?_) (fun h => ?_) <;> (conv => whnf)))
  all_goals
    refine rI_of ?_
    first
      | omega
      | (simp only [decide_eq_true_eq, decide_eq_false_iff_not, DDisk.cnt] at * <;> omega)
set_option maxHeartbeats 2000000 in
theorem szTwo_p (x : DTwo) (left : Int) (h0 : 0 ≤ left) (h1 : left ≤ 1048576) (hs : DTwo.small 9223372036854775807 x) : PCall av 99 [.agg x.ds, pI left] (rI (max (left - x.cnt) (-1))) := by
  refine pcall_of av_ok Tryz.func99 rfl Tryz.call99 Tryz.ntmps99 (congrArg Array.toList Tryz.results99) fun S => ?_; conv => whnf
  repeat' (first | (refine aw0 ?_) | ((first | refine aw1 ?_ | refine aw2 ?_ | refine aw3 ?_ | refine aw4 ?_ | refine aw5 ?_ | refine aw6 ?_ | refine aw7 ?_ | refine aw8 ?_); conv => whnf) | ((first | refine bT ?_ | refine bF ?_); conv => whnf) | (refine ACall.sz (szDisk_p x.a _ (by first | omega | (simp only [decide_eq_true_eq, decide_eq_false_iff_not, List.length_map] at *; omega)) (by first | omega | (simp only [decide_eq_true_eq, decide_eq_false_iff_not, List.length_map] at *; omega)) hs.1) rfl (fun h => ?_) (fun h => ?_) <;> (conv => whnf)) | (refine ACall.sz (szDisk_p x.b _ (by first | omega | (simp only [decide_eq_true_eq, decide_eq_false_iff_not, List.length_map] at *; omega)) (by first | omega | (simp only [decide_eq_true_eq, decide_eq_false_iff_not, List.length_map] at *; omega)) hs.2) rfl (fun h => ?_) (fun h => ?_) <;> (conv => whnf)) | (exact rr) | (refine And.intro rfl ?_; conv => whnf) | (refine AB.mk (fun h => ?_) (fun h => ?_) <;> (conv => whnf)))
  all_goals
    refine rI_of ?_
    first
      | omega
      | (simp only [decide_eq_true_eq, decide_eq_false_iff_not, DTwo.cnt] at * <;> omega)
theorem szMarkS_p (l : (List DMark)) (left : Int) (h0 : 0 ≤ left) (h1 : left ≤ 1048576) (hs : l.length ≤ 9223372036854775807) : PCall av 102 [.one (.sl (l.map DMark.ds)), pI left] (rI (max (left - l.length) (-1))) := by
  refine pcall_of av_ok Tryz.func102 rfl Tryz.call102 Tryz.ntmps102 (congrArg Array.toList Tryz.results102) fun S => ?_; conv => whnf
  repeat' (first | (refine aw0 ?_) | ((first | refine aw1 ?_ | refine aw2 ?_ | refine aw3 ?_ | refine aw4 ?_ | refine aw5 ?_ | refine aw6 ?_ | refine aw7 ?_ | refine aw8 ?_); conv => whnf) | (refine AW.i64 (n := _ - _) (by first | omega | (simp only [decide_eq_true_eq, decide_eq_false_iff_not, List.length_map] at *; omega)) (by first | omega | (simp only [decide_eq_true_eq, decide_eq_false_iff_not, List.length_map] at *; omega)) ?_; conv => whnf) | ((first | refine bT ?_ | refine bF ?_); conv => whnf) | (exact rr) | (refine And.intro rfl ?_; conv => whnf) | (refine AB.mk (fun h => ?_) (fun h => ?_) <;> (conv => whnf)))
  all_goals
    refine rI_of ?_
    simp only [decide_eq_true_eq, decide_eq_false_iff_not, List.length_map] at *
    omega
set_option maxHeartbeats 2000000 in
theorem szHead_p (x : DHead) (left : Int) (h0 : 0 ≤ left) (h1 : left ≤ 1048576) (hs : DHead.small 9223372036854775807 x) : PCall av 100 [.agg x.ds, pI left] (rI (max (left - x.cnt) (-1))) := by
  refine pcall_of av_ok Tryz.func100 rfl Tryz.call100 Tryz.ntmps100 (congrArg Array.toList Tryz.results100) fun S => ?_; conv => whnf
  repeat' (first | (refine aw0 ?_) | ((first | refine aw1 ?_ | refine aw2 ?_ | refine aw3 ?_ | refine aw4 ?_ | refine aw5 ?_ | refine aw6 ?_ | refine aw7 ?_ | refine aw8 ?_); conv => whnf) | ((first | refine bT ?_ | refine bF ?_); conv => whnf) | (refine ACall.sz (szMarkS_p x.seen _ (by first | omega | (simp only [decide_eq_true_eq, decide_eq_false_iff_not, List.length_map] at *; omega)) (by first | omega | (simp only [decide_eq_true_eq, decide_eq_false_iff_not, List.length_map] at *; omega)) hs) rfl (fun h => ?_) (fun h => ?_) <;> (conv => whnf)) | (exact rr) | (refine And.intro rfl ?_; conv => whnf) | (refine AB.mk (fun h => ?_) (fun h => ?_) <;> (conv => whnf)))
  all_goals
    refine rI_of ?_
    first
      | omega
      | (simp only [decide_eq_true_eq, decide_eq_false_iff_not, DHead.cnt] at * <;> omega)
theorem szEntryS_p (l : (List DEntry)) (left : Int) (h0 : 0 ≤ left) (h1 : left ≤ 1048576) (hs : l.length ≤ 9223372036854775807) : PCall av 175 [.one (.sl (l.map DEntry.ds)), pI left] (rI (max (left - l.length) (-1))) := by
  refine pcall_of av_ok Tryz.func175 rfl Tryz.call175 Tryz.ntmps175 (congrArg Array.toList Tryz.results175) fun S => ?_; conv => whnf
  repeat' (first | (refine aw0 ?_) | ((first | refine aw1 ?_ | refine aw2 ?_ | refine aw3 ?_ | refine aw4 ?_ | refine aw5 ?_ | refine aw6 ?_ | refine aw7 ?_ | refine aw8 ?_); conv => whnf) | (refine AW.i64 (n := _ - _) (by first | omega | (simp only [decide_eq_true_eq, decide_eq_false_iff_not, List.length_map] at *; omega)) (by first | omega | (simp only [decide_eq_true_eq, decide_eq_false_iff_not, List.length_map] at *; omega)) ?_; conv => whnf) | ((first | refine bT ?_ | refine bF ?_); conv => whnf) | (exact rr) | (refine And.intro rfl ?_; conv => whnf) | (refine AB.mk (fun h => ?_) (fun h => ?_) <;> (conv => whnf)))
  all_goals
    refine rI_of ?_
    simp only [decide_eq_true_eq, decide_eq_false_iff_not, List.length_map] at *
    omega
set_option maxHeartbeats 2000000 in
theorem szBook_p (x : DBook) (left : Int) (h0 : 0 ≤ left) (h1 : left ≤ 1048576) (hs : DBook.small 9223372036854775807 x) : PCall av 101 [.agg x.ds, pI left] (rI (max (left - x.cnt) (-1))) := by
  refine pcall_of av_ok Tryz.func101 rfl Tryz.call101 Tryz.ntmps101 (congrArg Array.toList Tryz.results101) fun S => ?_; conv => whnf
  repeat' (first | (refine aw0 ?_) | ((first | refine aw1 ?_ | refine aw2 ?_ | refine aw3 ?_ | refine aw4 ?_ | refine aw5 ?_ | refine aw6 ?_ | refine aw7 ?_ | refine aw8 ?_); conv => whnf) | ((first | refine bT ?_ | refine bF ?_); conv => whnf) | (refine ACall.sz (szEntryS_p x.entries _ (by first | omega | (simp only [decide_eq_true_eq, decide_eq_false_iff_not, List.length_map] at *; omega)) (by first | omega | (simp only [decide_eq_true_eq, decide_eq_false_iff_not, List.length_map] at *; omega)) hs) rfl (fun h => ?_) (fun h => ?_) <;> (conv => whnf)) | (exact rr) | (refine And.intro rfl ?_; conv => whnf) | (refine AB.mk (fun h => ?_) (fun h => ?_) <;> (conv => whnf)))
  all_goals
    refine rI_of ?_
    first
      | omega
      | (simp only [decide_eq_true_eq, decide_eq_false_iff_not, DBook.cnt] at * <;> omega)
theorem szAckS_p (l : (List DAck)) (left : Int) (h0 : 0 ≤ left) (h1 : left ≤ 1048576) (hs : l.length ≤ 9223372036854775807) : PCall av 103 [.one (.sl (l.map DAck.ds)), pI left] (rI (max (left - l.length) (-1))) := by
  refine pcall_of av_ok Tryz.func103 rfl Tryz.call103 Tryz.ntmps103 (congrArg Array.toList Tryz.results103) fun S => ?_; conv => whnf
  repeat' (first | (refine aw0 ?_) | ((first | refine aw1 ?_ | refine aw2 ?_ | refine aw3 ?_ | refine aw4 ?_ | refine aw5 ?_ | refine aw6 ?_ | refine aw7 ?_ | refine aw8 ?_); conv => whnf) | (refine AW.i64 (n := _ - _) (by first | omega | (simp only [decide_eq_true_eq, decide_eq_false_iff_not, List.length_map] at *; omega)) (by first | omega | (simp only [decide_eq_true_eq, decide_eq_false_iff_not, List.length_map] at *; omega)) ?_; conv => whnf) | ((first | refine bT ?_ | refine bF ?_); conv => whnf) | (exact rr) | (refine And.intro rfl ?_; conv => whnf) | (refine AB.mk (fun h => ?_) (fun h => ?_) <;> (conv => whnf)))
  all_goals
    refine rI_of ?_
    simp only [decide_eq_true_eq, decide_eq_false_iff_not, List.length_map] at *
    omega
set_option maxHeartbeats 2000000 in
theorem szLogNode_p (x : DLogNode) (left : Int) (h0 : 0 ≤ left) (h1 : left ≤ 1048576) (hs : DLogNode.small 9223372036854775807 x) : PCall av 28 [.agg x.ds, pI left] (rI (max (left - x.cnt) (-1))) := by
  refine pcall_of av_ok Tryz.func28 rfl Tryz.call28 Tryz.ntmps28 (congrArg Array.toList Tryz.results28) fun S => ?_; conv => whnf
  repeat' (first | (refine aw0 ?_) | ((first | refine aw1 ?_ | refine aw2 ?_ | refine aw3 ?_ | refine aw4 ?_ | refine aw5 ?_ | refine aw6 ?_ | refine aw7 ?_ | refine aw8 ?_); conv => whnf) | ((first | refine bT ?_ | refine bF ?_); conv => whnf) | (refine ACall.sz (szTwo_p x.two _ (by first | omega | (simp only [decide_eq_true_eq, decide_eq_false_iff_not, List.length_map] at *; omega)) (by first | omega | (simp only [decide_eq_true_eq, decide_eq_false_iff_not, List.length_map] at *; omega)) hs.1) rfl (fun h => ?_) (fun h => ?_) <;> (conv => whnf)) | (refine ACall.sz (szHead_p x.head _ (by first | omega | (simp only [decide_eq_true_eq, decide_eq_false_iff_not, List.length_map] at *; omega)) (by first | omega | (simp only [decide_eq_true_eq, decide_eq_false_iff_not, List.length_map] at *; omega)) hs.2.1) rfl (fun h => ?_) (fun h => ?_) <;> (conv => whnf)) | (refine ACall.sz (szHead_p x.nxt _ (by first | omega | (simp only [decide_eq_true_eq, decide_eq_false_iff_not, List.length_map] at *; omega)) (by first | omega | (simp only [decide_eq_true_eq, decide_eq_false_iff_not, List.length_map] at *; omega)) hs.2.2.1) rfl (fun h => ?_) (fun h => ?_) <;> (conv => whnf)) | (refine ACall.sz (szBook_p x.book _ (by first | omega | (simp only [decide_eq_true_eq, decide_eq_false_iff_not, List.length_map] at *; omega)) (by first | omega | (simp only [decide_eq_true_eq, decide_eq_false_iff_not, List.length_map] at *; omega)) hs.2.2.2.1) rfl (fun h => ?_) (fun h => ?_) <;> (conv => whnf)) | (refine ACall.sz (szMarkS_p x.seen _ (by first | omega | (simp only [decide_eq_true_eq, decide_eq_false_iff_not, List.length_map] at *; omega)) (by first | omega | (simp only [decide_eq_true_eq, decide_eq_false_iff_not, List.length_map] at *; omega)) hs.2.2.2.2.1) rfl (fun h => ?_) (fun h => ?_) <;> (conv => whnf)) | (refine ACall.sz (szAckS_p x.owe _ (by first | omega | (simp only [decide_eq_true_eq, decide_eq_false_iff_not, List.length_map] at *; omega)) (by first | omega | (simp only [decide_eq_true_eq, decide_eq_false_iff_not, List.length_map] at *; omega)) hs.2.2.2.2.2) rfl (fun h => ?_) (fun h => ?_) <;> (conv => whnf)) | (exact rr) | (refine And.intro rfl ?_; conv => whnf) | (refine AB.mk (fun h => ?_) (fun h => ?_) <;> (conv => whnf)))
  all_goals
    refine rI_of ?_
    first
      | omega
      | (simp only [decide_eq_true_eq, decide_eq_false_iff_not, DLogNode.cnt] at * <;> omega)
theorem szPairS_p (l : (List DPair)) (left : Int) (h0 : 0 ≤ left) (h1 : left ≤ 1048576) (hs : l.length ≤ 9223372036854775807) : PCall av 178 [.one (.sl (l.map DPair.ds)), pI left] (rI (max (left - l.length) (-1))) := by
  refine pcall_of av_ok Tryz.func178 rfl Tryz.call178 Tryz.ntmps178 (congrArg Array.toList Tryz.results178) fun S => ?_; conv => whnf
  repeat' (first | (refine aw0 ?_) | ((first | refine aw1 ?_ | refine aw2 ?_ | refine aw3 ?_ | refine aw4 ?_ | refine aw5 ?_ | refine aw6 ?_ | refine aw7 ?_ | refine aw8 ?_); conv => whnf) | (refine AW.i64 (n := _ - _) (by first | omega | (simp only [decide_eq_true_eq, decide_eq_false_iff_not, List.length_map] at *; omega)) (by first | omega | (simp only [decide_eq_true_eq, decide_eq_false_iff_not, List.length_map] at *; omega)) ?_; conv => whnf) | ((first | refine bT ?_ | refine bF ?_); conv => whnf) | (exact rr) | (refine And.intro rfl ?_; conv => whnf) | (refine AB.mk (fun h => ?_) (fun h => ?_) <;> (conv => whnf)))
  all_goals
    refine rI_of ?_
    simp only [decide_eq_true_eq, decide_eq_false_iff_not, List.length_map] at *
    omega
theorem szJobS_p (l : (List DJob)) (left : Int) (h0 : 0 ≤ left) (h1 : left ≤ 1048576) (hs : l.length ≤ 9223372036854775807) : PCall av 179 [.one (.sl (l.map DJob.ds)), pI left] (rI (max (left - l.length) (-1))) := by
  refine pcall_of av_ok Tryz.func179 rfl Tryz.call179 Tryz.ntmps179 (congrArg Array.toList Tryz.results179) fun S => ?_; conv => whnf
  repeat' (first | (refine aw0 ?_) | ((first | refine aw1 ?_ | refine aw2 ?_ | refine aw3 ?_ | refine aw4 ?_ | refine aw5 ?_ | refine aw6 ?_ | refine aw7 ?_ | refine aw8 ?_); conv => whnf) | (refine AW.i64 (n := _ - _) (by first | omega | (simp only [decide_eq_true_eq, decide_eq_false_iff_not, List.length_map] at *; omega)) (by first | omega | (simp only [decide_eq_true_eq, decide_eq_false_iff_not, List.length_map] at *; omega)) ?_; conv => whnf) | ((first | refine bT ?_ | refine bF ?_); conv => whnf) | (exact rr) | (refine And.intro rfl ?_; conv => whnf) | (refine AB.mk (fun h => ?_) (fun h => ?_) <;> (conv => whnf)))
  all_goals
    refine rI_of ?_
    simp only [decide_eq_true_eq, decide_eq_false_iff_not, List.length_map] at *
    omega
set_option maxHeartbeats 2000000 in
theorem szState_p (x : DState) (left : Int) (h0 : 0 ≤ left) (h1 : left ≤ 1048576) (hs : DState.small 9223372036854775807 x) : PCall av 105 [.agg x.ds, pI left] (rI (max (left - x.cnt) (-1))) := by
  refine pcall_of av_ok Tryz.func105 rfl Tryz.call105 Tryz.ntmps105 (congrArg Array.toList Tryz.results105) fun S => ?_; conv => whnf
  repeat' (first | (refine aw0 ?_) | ((first | refine aw1 ?_ | refine aw2 ?_ | refine aw3 ?_ | refine aw4 ?_ | refine aw5 ?_ | refine aw6 ?_ | refine aw7 ?_ | refine aw8 ?_); conv => whnf) | ((first | refine bT ?_ | refine bF ?_); conv => whnf) | (refine ACall.sz (szPairS_p x.pairs _ (by first | omega | (simp only [decide_eq_true_eq, decide_eq_false_iff_not, List.length_map] at *; omega)) (by first | omega | (simp only [decide_eq_true_eq, decide_eq_false_iff_not, List.length_map] at *; omega)) hs.1) rfl (fun h => ?_) (fun h => ?_) <;> (conv => whnf)) | (refine ACall.sz (szJobS_p x.jobs _ (by first | omega | (simp only [decide_eq_true_eq, decide_eq_false_iff_not, List.length_map] at *; omega)) (by first | omega | (simp only [decide_eq_true_eq, decide_eq_false_iff_not, List.length_map] at *; omega)) hs.2) rfl (fun h => ?_) (fun h => ?_) <;> (conv => whnf)) | (exact rr) | (refine And.intro rfl ?_; conv => whnf) | (refine AB.mk (fun h => ?_) (fun h => ?_) <;> (conv => whnf)))
  all_goals
    refine rI_of ?_
    first
      | omega
      | (simp only [decide_eq_true_eq, decide_eq_false_iff_not, DState.cnt] at * <;> omega)
set_option maxHeartbeats 2000000 in
theorem szStore_p (x : DStore) (left : Int) (h0 : 0 ≤ left) (h1 : left ≤ 1048576) (hs : DStore.small 9223372036854775807 x) : PCall av 29 [.agg x.ds, pI left] (rI (max (left - x.cnt) (-1))) := by
  refine pcall_of av_ok Tryz.func29 rfl Tryz.call29 Tryz.ntmps29 (congrArg Array.toList Tryz.results29) fun S => ?_; conv => whnf
  repeat' (first | (refine aw0 ?_) | ((first | refine aw1 ?_ | refine aw2 ?_ | refine aw3 ?_ | refine aw4 ?_ | refine aw5 ?_ | refine aw6 ?_ | refine aw7 ?_ | refine aw8 ?_); conv => whnf) | ((first | refine bT ?_ | refine bF ?_); conv => whnf) | (refine ACall.sz (szDisk_p x.disk _ (by first | omega | (simp only [decide_eq_true_eq, decide_eq_false_iff_not, List.length_map] at *; omega)) (by first | omega | (simp only [decide_eq_true_eq, decide_eq_false_iff_not, List.length_map] at *; omega)) hs.1) rfl (fun h => ?_) (fun h => ?_) <;> (conv => whnf)) | (refine ACall.sz (szState_p x.state _ (by first | omega | (simp only [decide_eq_true_eq, decide_eq_false_iff_not, List.length_map] at *; omega)) (by first | omega | (simp only [decide_eq_true_eq, decide_eq_false_iff_not, List.length_map] at *; omega)) hs.2) rfl (fun h => ?_) (fun h => ?_) <;> (conv => whnf)) | (exact rr) | (refine And.intro rfl ?_; conv => whnf) | (refine AB.mk (fun h => ?_) (fun h => ?_) <;> (conv => whnf)))
  all_goals
    refine rI_of ?_
    first
      | omega
      | (simp only [decide_eq_true_eq, decide_eq_false_iff_not, DStore.cnt] at * <;> omega)
theorem szDueS_p (l : (List DDue)) (left : Int) (h0 : 0 ≤ left) (h1 : left ≤ 1048576) (hs : l.length ≤ 9223372036854775807) : PCall av 243 [.one (.sl (l.map DDue.ds)), pI left] (rI (max (left - l.length) (-1))) := by
  refine pcall_of av_ok Tryz.func243 rfl Tryz.call243 Tryz.ntmps243 (congrArg Array.toList Tryz.results243) fun S => ?_; conv => whnf
  repeat' (first | (refine aw0 ?_) | ((first | refine aw1 ?_ | refine aw2 ?_ | refine aw3 ?_ | refine aw4 ?_ | refine aw5 ?_ | refine aw6 ?_ | refine aw7 ?_ | refine aw8 ?_); conv => whnf) | (refine AW.i64 (n := _ - _) (by first | omega | (simp only [decide_eq_true_eq, decide_eq_false_iff_not, List.length_map] at *; omega)) (by first | omega | (simp only [decide_eq_true_eq, decide_eq_false_iff_not, List.length_map] at *; omega)) ?_; conv => whnf) | ((first | refine bT ?_ | refine bF ?_); conv => whnf) | (exact rr) | (refine And.intro rfl ?_; conv => whnf) | (refine AB.mk (fun h => ?_) (fun h => ?_) <;> (conv => whnf)))
  all_goals
    refine rI_of ?_
    simp only [decide_eq_true_eq, decide_eq_false_iff_not, List.length_map] at *
    omega
set_option maxHeartbeats 2000000 in
theorem szJobs_p (x : DJobs) (left : Int) (h0 : 0 ≤ left) (h1 : left ≤ 1048576) (hs : DJobs.small 9223372036854775807 x) : PCall av 180 [.agg x.ds, pI left] (rI (max (left - x.cnt) (-1))) := by
  refine pcall_of av_ok Tryz.func180 rfl Tryz.call180 Tryz.ntmps180 (congrArg Array.toList Tryz.results180) fun S => ?_; conv => whnf
  repeat' (first | (refine aw0 ?_) | ((first | refine aw1 ?_ | refine aw2 ?_ | refine aw3 ?_ | refine aw4 ?_ | refine aw5 ?_ | refine aw6 ?_ | refine aw7 ?_ | refine aw8 ?_); conv => whnf) | ((first | refine bT ?_ | refine bF ?_); conv => whnf) | (refine ACall.sz (szDueS_p x.opens _ (by first | omega | (simp only [decide_eq_true_eq, decide_eq_false_iff_not, List.length_map] at *; omega)) (by first | omega | (simp only [decide_eq_true_eq, decide_eq_false_iff_not, List.length_map] at *; omega)) hs) rfl (fun h => ?_) (fun h => ?_) <;> (conv => whnf)) | (exact rr) | (refine And.intro rfl ?_; conv => whnf) | (refine AB.mk (fun h => ?_) (fun h => ?_) <;> (conv => whnf)))
  all_goals
    refine rI_of ?_
    first
      | omega
      | (simp only [decide_eq_true_eq, decide_eq_false_iff_not, DJobs.cnt] at * <;> omega)
set_option maxHeartbeats 2000000 in
theorem szView_p (x : DView) (left : Int) (h0 : 0 ≤ left) (h1 : left ≤ 1048576) (hs : DView.small 9223372036854775807 x) : PCall av 106 [.agg x.ds, pI left] (rI (max (left - x.cnt) (-1))) := by
  refine pcall_of av_ok Tryz.func106 rfl Tryz.call106 Tryz.ntmps106 (congrArg Array.toList Tryz.results106) fun S => ?_; conv => whnf
  repeat' (first | (refine aw0 ?_) | ((first | refine aw1 ?_ | refine aw2 ?_ | refine aw3 ?_ | refine aw4 ?_ | refine aw5 ?_ | refine aw6 ?_ | refine aw7 ?_ | refine aw8 ?_); conv => whnf) | ((first | refine bT ?_ | refine bF ?_); conv => whnf) | (refine ACall.sz (szJobs_p x.jobs _ (by first | omega | (simp only [decide_eq_true_eq, decide_eq_false_iff_not, List.length_map] at *; omega)) (by first | omega | (simp only [decide_eq_true_eq, decide_eq_false_iff_not, List.length_map] at *; omega)) hs) rfl (fun h => ?_) (fun h => ?_) <;> (conv => whnf)) | (exact rr) | (refine And.intro rfl ?_; conv => whnf) | (refine AB.mk (fun h => ?_) (fun h => ?_) <;> (conv => whnf)))
  all_goals
    refine rI_of ?_
    first
      | omega
      | (simp only [decide_eq_true_eq, decide_eq_false_iff_not, DView.cnt] at * <;> omega)
set_option maxHeartbeats 2000000 in
theorem szSched_p (x : DSched) (left : Int) (h0 : 0 ≤ left) (h1 : left ≤ 1048576) (hs : DSched.small 9223372036854775807 x) : PCall av 30 [.agg x.ds, pI left] (rI (max (left - x.cnt) (-1))) := by
  refine pcall_of av_ok Tryz.func30 rfl Tryz.call30 Tryz.ntmps30 (congrArg Array.toList Tryz.results30) fun S => ?_; conv => whnf
  repeat' (first | (refine aw0 ?_) | ((first | refine aw1 ?_ | refine aw2 ?_ | refine aw3 ?_ | refine aw4 ?_ | refine aw5 ?_ | refine aw6 ?_ | refine aw7 ?_ | refine aw8 ?_); conv => whnf) | ((first | refine bT ?_ | refine bF ?_); conv => whnf) | (refine ACall.sz (szView_p x.view _ (by first | omega | (simp only [decide_eq_true_eq, decide_eq_false_iff_not, List.length_map] at *; omega)) (by first | omega | (simp only [decide_eq_true_eq, decide_eq_false_iff_not, List.length_map] at *; omega)) hs) rfl (fun h => ?_) (fun h => ?_) <;> (conv => whnf)) | (exact rr) | (refine And.intro rfl ?_; conv => whnf) | (refine AB.mk (fun h => ?_) (fun h => ?_) <;> (conv => whnf)))
  all_goals
    refine rI_of ?_
    first
      | omega
      | (simp only [decide_eq_true_eq, decide_eq_false_iff_not, DSched.cnt] at * <;> omega)
theorem szWantS_p (l : (List DWant)) (left : Int) (h0 : 0 ≤ left) (h1 : left ≤ 1048576) (hs : l.length ≤ 9223372036854775807) : PCall av 107 [.one (.sl (l.map DWant.ds)), pI left] (rI (max (left - l.length) (-1))) := by
  refine pcall_of av_ok Tryz.func107 rfl Tryz.call107 Tryz.ntmps107 (congrArg Array.toList Tryz.results107) fun S => ?_; conv => whnf
  repeat' (first | (refine aw0 ?_) | ((first | refine aw1 ?_ | refine aw2 ?_ | refine aw3 ?_ | refine aw4 ?_ | refine aw5 ?_ | refine aw6 ?_ | refine aw7 ?_ | refine aw8 ?_); conv => whnf) | (refine AW.i64 (n := _ - _) (by first | omega | (simp only [decide_eq_true_eq, decide_eq_false_iff_not, List.length_map] at *; omega)) (by first | omega | (simp only [decide_eq_true_eq, decide_eq_false_iff_not, List.length_map] at *; omega)) ?_; conv => whnf) | ((first | refine bT ?_ | refine bF ?_); conv => whnf) | (exact rr) | (refine And.intro rfl ?_; conv => whnf) | (refine AB.mk (fun h => ?_) (fun h => ?_) <;> (conv => whnf)))
  all_goals
    refine rI_of ?_
    simp only [decide_eq_true_eq, decide_eq_false_iff_not, List.length_map] at *
    omega
theorem szGotS_p (l : (List DGot)) (left : Int) (h0 : 0 ≤ left) (h1 : left ≤ 1048576) (hs : l.length ≤ 9223372036854775807) : PCall av 108 [.one (.sl (l.map DGot.ds)), pI left] (rI (max (left - l.length) (-1))) := by
  refine pcall_of av_ok Tryz.func108 rfl Tryz.call108 Tryz.ntmps108 (congrArg Array.toList Tryz.results108) fun S => ?_; conv => whnf
  repeat' (first | (refine aw0 ?_) | ((first | refine aw1 ?_ | refine aw2 ?_ | refine aw3 ?_ | refine aw4 ?_ | refine aw5 ?_ | refine aw6 ?_ | refine aw7 ?_ | refine aw8 ?_); conv => whnf) | (refine AW.i64 (n := _ - _) (by first | omega | (simp only [decide_eq_true_eq, decide_eq_false_iff_not, List.length_map] at *; omega)) (by first | omega | (simp only [decide_eq_true_eq, decide_eq_false_iff_not, List.length_map] at *; omega)) ?_; conv => whnf) | ((first | refine bT ?_ | refine bF ?_); conv => whnf) | (exact rr) | (refine And.intro rfl ?_; conv => whnf) | (refine AB.mk (fun h => ?_) (fun h => ?_) <;> (conv => whnf)))
  all_goals
    refine rI_of ?_
    simp only [decide_eq_true_eq, decide_eq_false_iff_not, List.length_map] at *
    omega
set_option maxHeartbeats 2000000 in
theorem szClient_p (x : DClient) (left : Int) (h0 : 0 ≤ left) (h1 : left ≤ 1048576) (hs : DClient.small 9223372036854775807 x) : PCall av 31 [.agg x.ds, pI left] (rI (max (left - x.cnt) (-1))) := by
  refine pcall_of av_ok Tryz.func31 rfl Tryz.call31 Tryz.ntmps31 (congrArg Array.toList Tryz.results31) fun S => ?_; conv => whnf
  repeat' (first | (refine aw0 ?_) | ((first | refine aw1 ?_ | refine aw2 ?_ | refine aw3 ?_ | refine aw4 ?_ | refine aw5 ?_ | refine aw6 ?_ | refine aw7 ?_ | refine aw8 ?_); conv => whnf) | ((first | refine bT ?_ | refine bF ?_); conv => whnf) | (refine ACall.sz (szWantS_p x.todo _ (by first | omega | (simp only [decide_eq_true_eq, decide_eq_false_iff_not, List.length_map] at *; omega)) (by first | omega | (simp only [decide_eq_true_eq, decide_eq_false_iff_not, List.length_map] at *; omega)) hs.1) rfl (fun h => ?_) (fun h => ?_) <;> (conv => whnf)) | (refine ACall.sz (szGotS_p x.gots _ (by first | omega | (simp only [decide_eq_true_eq, decide_eq_false_iff_not, List.length_map] at *; omega)) (by first | omega | (simp only [decide_eq_true_eq, decide_eq_false_iff_not, List.length_map] at *; omega)) hs.2) rfl (fun h => ?_) (fun h => ?_) <;> (conv => whnf)) | (exact rr) | (refine And.intro rfl ?_; conv => whnf) | (refine AB.mk (fun h => ?_) (fun h => ?_) <;> (conv => whnf)))
  all_goals
    refine rI_of ?_
    first
      | omega
      | (simp only [decide_eq_true_eq, decide_eq_false_iff_not, DClient.cnt] at * <;> omega)
set_option maxHeartbeats 2000000 in
theorem szMsg_p (x : DMsg) (left : Int) (h0 : 0 ≤ left) (h1 : left ≤ 1048576) (hs : DMsg.small 9223372036854775807 x) : PCall av 181 [.agg x.ds, pI left] (rI (max (left - x.cnt) (-1))) := by
  refine pcall_of av_ok Tryz.func181 rfl Tryz.call181 Tryz.ntmps181 (congrArg Array.toList Tryz.results181) fun S => ?_; conv => whnf
  repeat' (first | (refine aw0 ?_) | ((first | refine aw1 ?_ | refine aw2 ?_ | refine aw3 ?_ | refine aw4 ?_ | refine aw5 ?_ | refine aw6 ?_ | refine aw7 ?_ | refine aw8 ?_); conv => whnf) | ((first | refine bT ?_ | refine bF ?_); conv => whnf) | (refine ACall.sz (szInt64S_p x.row _ (by first | omega | (simp only [decide_eq_true_eq, decide_eq_false_iff_not, List.length_map] at *; omega)) (by first | omega | (simp only [decide_eq_true_eq, decide_eq_false_iff_not, List.length_map] at *; omega)) hs) rfl (fun h => ?_) (fun h => ?_) <;> (conv => whnf)) | (exact rr) | (refine And.intro rfl ?_; conv => whnf) | (refine AB.mk (fun h => ?_) (fun h => ?_) <;> (conv => whnf)))
  all_goals
    refine rI_of ?_
    first
      | omega
      | (simp only [decide_eq_true_eq, decide_eq_false_iff_not, DMsg.cnt] at * <;> omega)
theorem szMsgS_p (l : (List DMsg)) (left : Int) (h0 : 0 ≤ left) (h1 : left ≤ 1048576) (hs : l.length ≤ 9223372036854775807 ∧ ∀ y ∈ l, DMsg.small 9223372036854775807 y) : PCall av 109 [.one (.sl (l.map DMsg.ds)), pI left] (rI (max (left - cntS DMsg.cnt l) (-1))) := by
  refine pcall_of av_ok Tryz.func109 rfl Tryz.call109 Tryz.ntmps109 (congrArg Array.toList Tryz.results109) fun S => ?_; conv => whnf
  have hlen := hs.1
  have hcl := cntS_len DMsg.cnt l
  repeat' (first | (refine aw0 ?_) | ((first | refine aw1 ?_ | refine aw2 ?_ | refine aw3 ?_ | refine aw4 ?_ | refine aw5 ?_ | refine aw6 ?_ | refine aw7 ?_ | refine aw8 ?_); conv => whnf) | (refine AW.i64 (n := _ - _) (by first | omega | (simp only [decide_eq_true_eq, decide_eq_false_iff_not, List.length_map] at *; omega)) (by first | omega | (simp only [decide_eq_true_eq, decide_eq_false_iff_not, List.length_map] at *; omega)) ?_; conv => whnf) | ((first | refine bT ?_ | refine bF ?_); conv => whnf) | (exact rr) | (refine And.intro rfl ?_; conv => whnf) | (refine AB.mk (fun h => ?_) (fun h => ?_) <;> (conv => whnf)))
  · refine rI_of ?_
    simp only [decide_eq_true_eq, decide_eq_false_iff_not, List.length_map] at *
    omega
  refine AWP.loopS (fun p : Nat × Int => p.1 ≤ l.length ∧ 0 ≤ p.2 ∧ p.2 = left - l.length + (p.1 : Int) - cntS DMsg.cnt (l.take p.1)) [1, 4, 5, 12, 13, 14, 15, 16, 17, 18, 19, 20, 21, 22, 23, 24, 25] (fun p => [(1, vI .i64 p.2), (5, vI .i64 (p.1 : Int))]) (fun _ => []) (fun p => l.length - p.1) (0, left - ((l.map DMsg.ds).length : Int)) ⟨by simp, (by first | omega | (simp only [decide_eq_true_eq, decide_eq_false_iff_not, List.length_map] at *; omega)), by simp [cntS]⟩ ?_ SubO.nil (fun p hR => ?_) <;> (conv => whnf)
  · exact whd
  · obtain ⟨k, v⟩ := p
    obtain ⟨hk, hv, he⟩ := hR
    simp only at hk hv he
    have htk := cntS_take DMsg.cnt l k
    have htl : (l.take k).length = k := by simp; omega
    repeat' (first | (refine aw0 ?_) | ((first | refine aw1 ?_ | refine aw2 ?_ | refine aw3 ?_ | refine aw4 ?_ | refine aw5 ?_ | refine aw6 ?_ | refine aw7 ?_ | refine aw8 ?_); conv => whnf) | ((first | refine bT ?_ | refine bF ?_); conv => whnf) | (refine AIx.mapF (by first | omega | (simp only [decide_eq_true_eq, decide_eq_false_iff_not, List.length_map] at *; omega)) (fun hlt => ?_); conv => whnf) | (refine ACall.pure (szMsg_p _ _ hv (by first | omega | (simp only [decide_eq_true_eq, decide_eq_false_iff_not, List.length_map] at *; omega)) (hs.2 _ (List.getElem_mem hlt))) rfl ?_; conv => whnf) | (refine AW.i64 (by first | omega | (simp only [decide_eq_true_eq, decide_eq_false_iff_not, List.length_map] at *; omega)) (by first | omega | (simp only [decide_eq_true_eq, decide_eq_false_iff_not, List.length_map] at *; omega)) ?_; conv => whnf) | (exact rr) | (refine And.intro rfl ?_; conv => whnf) | (refine AB.mk (fun h => ?_) (fun h => ?_) <;> (conv => whnf)))
    all_goals first
      | (have hsu := cntS_succ DMsg.cnt l k hlt
         have htk := cntS_take DMsg.cnt l (k + 1)
         have htl : (l.take (k + 1)).length = k + 1 := by simp; omega
         simp only [decide_eq_true_eq, decide_eq_false_iff_not, List.length_map] at *
         first
           | (refine rI_of ?_; omega)
           | (refine ANext.mk ⟨(k + 1, max (v - ((DMsg.cnt l[k] : Nat) : Int)) (-1)), ⟨by simp only; omega, by simp only; omega, by simp only; omega⟩, by simp only; omega, ?_, SubO.nil⟩; exact hds))
      | (have hkk : k = l.length := (by first | omega | (simp only [decide_eq_true_eq, decide_eq_false_iff_not, List.length_map] at *; omega))
         subst hkk
         refine rI_of ?_
         rw [List.take_length] at he
         omega)
theorem szLinkS_p (l : (List DLink)) (left : Int) (h0 : 0 ≤ left) (h1 : left ≤ 1048576) (hs : l.length ≤ 9223372036854775807) : PCall av 110 [.one (.sl (l.map DLink.ds)), pI left] (rI (max (left - l.length) (-1))) := by
  refine pcall_of av_ok Tryz.func110 rfl Tryz.call110 Tryz.ntmps110 (congrArg Array.toList Tryz.results110) fun S => ?_; conv => whnf
  repeat' (first | (refine aw0 ?_) | ((first | refine aw1 ?_ | refine aw2 ?_ | refine aw3 ?_ | refine aw4 ?_ | refine aw5 ?_ | refine aw6 ?_ | refine aw7 ?_ | refine aw8 ?_); conv => whnf) | (refine AW.i64 (n := _ - _) (by first | omega | (simp only [decide_eq_true_eq, decide_eq_false_iff_not, List.length_map] at *; omega)) (by first | omega | (simp only [decide_eq_true_eq, decide_eq_false_iff_not, List.length_map] at *; omega)) ?_; conv => whnf) | ((first | refine bT ?_ | refine bF ?_); conv => whnf) | (exact rr) | (refine And.intro rfl ?_; conv => whnf) | (refine AB.mk (fun h => ?_) (fun h => ?_) <;> (conv => whnf)))
  all_goals
    refine rI_of ?_
    simp only [decide_eq_true_eq, decide_eq_false_iff_not, List.length_map] at *
    omega
set_option maxHeartbeats 2000000 in
theorem szNet_p (x : DNet) (left : Int) (h0 : 0 ≤ left) (h1 : left ≤ 1048576) (hs : DNet.small 9223372036854775807 x) : PCall av 32 [.agg x.ds, pI left] (rI (max (left - x.cnt) (-1))) := by
  refine pcall_of av_ok Tryz.func32 rfl Tryz.call32 Tryz.ntmps32 (congrArg Array.toList Tryz.results32) fun S => ?_; conv => whnf
  repeat' (first | (refine aw0 ?_) | ((first | refine aw1 ?_ | refine aw2 ?_ | refine aw3 ?_ | refine aw4 ?_ | refine aw5 ?_ | refine aw6 ?_ | refine aw7 ?_ | refine aw8 ?_); conv => whnf) | ((first | refine bT ?_ | refine bF ?_); conv => whnf) | (refine ACall.sz (szMsgS_p x.flight _ (by first | omega | (simp only [decide_eq_true_eq, decide_eq_false_iff_not, List.length_map] at *; omega)) (by first | omega | (simp only [decide_eq_true_eq, decide_eq_false_iff_not, List.length_map] at *; omega)) ⟨hs.1, hs.2.1⟩) rfl (fun h => ?_) (fun h => ?_) <;> (conv => whnf)) | (refine ACall.sz (szLinkS_p x.cuts _ (by first | omega | (simp only [decide_eq_true_eq, decide_eq_false_iff_not, List.length_map] at *; omega)) (by first | omega | (simp only [decide_eq_true_eq, decide_eq_false_iff_not, List.length_map] at *; omega)) hs.2.2) rfl (fun h => ?_) (fun h => ?_) <;> (conv => whnf)) | (exact rr) | (refine And.intro rfl ?_; conv => whnf) | (refine AB.mk (fun h => ?_) (fun h => ?_) <;> (conv => whnf)))
  all_goals
    refine rI_of ?_
    first
      | omega
      | (simp only [decide_eq_true_eq, decide_eq_false_iff_not, DNet.cnt] at * <;> omega)
theorem szBoolS_p (l : (List Bool)) (left : Int) (h0 : 0 ≤ left) (h1 : left ≤ 1048576) (hs : l.length ≤ 9223372036854775807) : PCall av 34 [.one (.sl (l.map eB)), pI left] (rI (max (left - l.length) (-1))) := by
  refine pcall_of av_ok Tryz.func34 rfl Tryz.call34 Tryz.ntmps34 (congrArg Array.toList Tryz.results34) fun S => ?_; conv => whnf
  repeat' (first | (refine aw0 ?_) | ((first | refine aw1 ?_ | refine aw2 ?_ | refine aw3 ?_ | refine aw4 ?_ | refine aw5 ?_ | refine aw6 ?_ | refine aw7 ?_ | refine aw8 ?_); conv => whnf) | (refine AW.i64 (n := _ - _) (by first | omega | (simp only [decide_eq_true_eq, decide_eq_false_iff_not, List.length_map] at *; omega)) (by first | omega | (simp only [decide_eq_true_eq, decide_eq_false_iff_not, List.length_map] at *; omega)) ?_; conv => whnf) | ((first | refine bT ?_ | refine bF ?_); conv => whnf) | (exact rr) | (refine And.intro rfl ?_; conv => whnf) | (refine AB.mk (fun h => ?_) (fun h => ?_) <;> (conv => whnf)))
  all_goals
    refine rI_of ?_
    simp only [decide_eq_true_eq, decide_eq_false_iff_not, List.length_map] at *
    omega
set_option maxHeartbeats 2000000 in
theorem szWorld_p (x : DWorld) (left : Int) (h0 : 0 ≤ left) (h1 : left ≤ 1048576) (hs : DWorld.small 9223372036854775807 x) : PCall av 9 [.agg x.ds, pI left] (rI (max (left - x.cnt) (-1))) := by
  refine pcall_of av_ok Tryz.func9 rfl Tryz.call9 Tryz.ntmps9 (congrArg Array.toList Tryz.results9) fun S => ?_; conv => whnf
  repeat' (first | (refine aw0 ?_) | ((first | refine aw1 ?_ | refine aw2 ?_ | refine aw3 ?_ | refine aw4 ?_ | refine aw5 ?_ | refine aw6 ?_ | refine aw7 ?_ | refine aw8 ?_); conv => whnf) | ((first | refine bT ?_ | refine bF ?_); conv => whnf) | (refine ACall.sz (szLogNode_p x.log _ (by first | omega | (simp only [decide_eq_true_eq, decide_eq_false_iff_not, List.length_map] at *; omega)) (by first | omega | (simp only [decide_eq_true_eq, decide_eq_false_iff_not, List.length_map] at *; omega)) hs.1) rfl (fun h => ?_) (fun h => ?_) <;> (conv => whnf)) | (refine ACall.sz (szStore_p x.store _ (by first | omega | (simp only [decide_eq_true_eq, decide_eq_false_iff_not, List.length_map] at *; omega)) (by first | omega | (simp only [decide_eq_true_eq, decide_eq_false_iff_not, List.length_map] at *; omega)) hs.2.1) rfl (fun h => ?_) (fun h => ?_) <;> (conv => whnf)) | (refine ACall.sz (szSched_p x.left _ (by first | omega | (simp only [decide_eq_true_eq, decide_eq_false_iff_not, List.length_map] at *; omega)) (by first | omega | (simp only [decide_eq_true_eq, decide_eq_false_iff_not, List.length_map] at *; omega)) hs.2.2.1) rfl (fun h => ?_) (fun h => ?_) <;> (conv => whnf)) | (refine ACall.sz (szSched_p x.right _ (by first | omega | (simp only [decide_eq_true_eq, decide_eq_false_iff_not, List.length_map] at *; omega)) (by first | omega | (simp only [decide_eq_true_eq, decide_eq_false_iff_not, List.length_map] at *; omega)) hs.2.2.2.1) rfl (fun h => ?_) (fun h => ?_) <;> (conv => whnf)) | (refine ACall.sz (szClient_p x.ann _ (by first | omega | (simp only [decide_eq_true_eq, decide_eq_false_iff_not, List.length_map] at *; omega)) (by first | omega | (simp only [decide_eq_true_eq, decide_eq_false_iff_not, List.length_map] at *; omega)) hs.2.2.2.2.1) rfl (fun h => ?_) (fun h => ?_) <;> (conv => whnf)) | (refine ACall.sz (szClient_p x.bob _ (by first | omega | (simp only [decide_eq_true_eq, decide_eq_false_iff_not, List.length_map] at *; omega)) (by first | omega | (simp only [decide_eq_true_eq, decide_eq_false_iff_not, List.length_map] at *; omega)) hs.2.2.2.2.2.1) rfl (fun h => ?_) (fun h => ?_) <;> (conv => whnf)) | (refine ACall.sz (szNet_p x.net _ (by first | omega | (simp only [decide_eq_true_eq, decide_eq_false_iff_not, List.length_map] at *; omega)) (by first | omega | (simp only [decide_eq_true_eq, decide_eq_false_iff_not, List.length_map] at *; omega)) hs.2.2.2.2.2.2.1) rfl (fun h => ?_) (fun h => ?_) <;> (conv => whnf)) | (refine ACall.sz (szInt64S_p x.clocks _ (by first | omega | (simp only [decide_eq_true_eq, decide_eq_false_iff_not, List.length_map] at *; omega)) (by first | omega | (simp only [decide_eq_true_eq, decide_eq_false_iff_not, List.length_map] at *; omega)) hs.2.2.2.2.2.2.2.1) rfl (fun h => ?_) (fun h => ?_) <;> (conv => whnf)) | (refine ACall.sz (szBoolS_p x.up _ (by first | omega | (simp only [decide_eq_true_eq, decide_eq_false_iff_not, List.length_map] at *; omega)) (by first | omega | (simp only [decide_eq_true_eq, decide_eq_false_iff_not, List.length_map] at *; omega)) hs.2.2.2.2.2.2.2.2) rfl (fun h => ?_) (fun h => ?_) <;> (conv => whnf)) | (exact rr) | (refine And.intro rfl ?_; conv => whnf) | (refine AB.mk (fun h => ?_) (fun h => ?_) <;> (conv => whnf)))
  all_goals
    refine rI_of ?_
    first
      | omega
      | (simp only [decide_eq_true_eq, decide_eq_false_iff_not, DWorld.cnt] at * <;> omega)
end Go.Proofs.YtmgcnmdbhahhlaaGreat
