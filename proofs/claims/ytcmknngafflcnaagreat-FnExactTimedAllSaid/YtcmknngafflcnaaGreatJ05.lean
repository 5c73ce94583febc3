/- J05 -/
import Derived.Test.YtcmknngafflcnaaGreatAwx
import Derived.Test.YtcmknngafflcnaaGreatJ04
import Derived.Test.YtcmknngafflcnaaGreatJ02
set_option linter.unusedVariables false
set_option linter.unusedSimpArgs false
set_option maxRecDepth 100000
namespace Go.Proofs.YtcmknngafflcnaaGreat
open Go.ChangeShapes Go.WideShapes Go.RowKit
section
variable {α : Type}
def cpG (enc : α → List AD) (z : List AD) (l : List α) (k : Nat) : List (List AD) := (l.take k).map enc ++ List.replicate (l.length - k) z
theorem ez (enc : α → List AD) (z : List AD) (l : List α) : cpG enc z l 0 = List.replicate l.length z := by simp [cpG]
theorem cm (enc : α → List AD) (z : List AD) (l : List α) : cpG enc z l l.length = l.map enc := by simp [cpG]
theorem fL (enc : α → List AD) (z : List AD) (l : List α) (k : Nat) (hk : k < l.length) : (cpG enc z l k).set k (enc l[k]) = cpG enc z l (k + 1) := by
  unfold cpG
  have h1 : ((l.take k).map enc).length = k := by simp; omega
  rw [List.set_append_right _ _ (by omega), h1, Nat.sub_self, cu enc hk, List.append_assoc]
  congr 1
  rw [show l.length - k = (l.length - (k + 1)) + 1 by omega, List.replicate_succ]
  rfl
theorem dd (enc : α → List AD) (z : List AD) (l : List α) (k : Nat) (hk : k < l.length) : (cpG enc z l k)[k]? = some z := by
  have h1 : ((l.take k).map enc).length = k := by simp; omega
  unfold cpG
  rw [List.getElem?_append_right (by omega), h1, List.getElem?_replicate, if_pos (by omega)]
theorem EY {β : Type} {cs : List β} {k n : Nat} (z : β) (h : cs.length = k) (hk : k < n) : (cs ++ List.replicate (n - k) z)[k]? = some z := by
  rw [List.getElem?_append_right (by omega), List.getElem?_replicate, if_pos (by omega)]
theorem Ca {β : Type} {cs : List β} {k n : Nat} {x : β} (z : β) (h : cs.length = k) (hk : k < n) : (cs ++ List.replicate (n - k) z).set k x = (cs ++ [x]) ++ List.replicate (n - (k + 1)) z := by
  rw [List.set_append_right _ _ (by omega), h, Nat.sub_self, show n - k = (n - (k + 1)) + 1 by omega, List.replicate_succ, List.append_assoc]
  rfl
end
theorem lz (l : (List Int)) (hs : l.length ≤ 1048576) : bk av 28 [.one (.sl (l.map eI))] (.one (.sl (l.map eI))) := by
  have hl : l.length ≤ 1048576 := hs
  refine bj ah Tryz.func28 rfl Tryz.call28 Tryz.ntmps28 (congrArg Array.toList Tryz.results28) fun S => ?_; conv => whnf
  repeat' (first | (refine aw0 ?_) | (refine awx ?_; conv => whnf) | fail | (refine ⟨l.length, by simp, by simp, (show 8 * l.length ≤ _ by omega), by omega, ?_⟩; conv => whnf) | (exact rr) | (refine And.intro rfl ?_; conv => whnf) | (refine AB.mk (fun h => ?_) (fun h => ?_) <;> (conv => whnf)))
  refine AWP.loopS (fun k : Nat => k ≤ l.length) (7 :: [4, 8, 9, 10, 11, 12, 13, 14, 15, 16, 17, 18, 19, 20]) (fun k => [(3, .one (.own 7)), (4, vI .i64 (k : Int))]) (fun k => [(9997, cN S.w0.heap.size S.w0.heap.size), (7, .row 2 1 (cpG eI [dI 0] l k))]) (fun k => l.length - k) 0 (by omega) ?_ (ai.cons rfl (ai.cons (congrArg some (congrArg (AO.row 2 1) (ez eI [dI 0] l).symm)) ai.nil)) (fun k hR => ?_) <;> (conv => whnf)
  · exact whd
  · repeat' (first | (refine aw0 ?_) | (refine awx ?_; conv => whnf) | fail | (refine AIx.mapF ari (fun hlt => ?_); conv => whnf) | (refine AIx.at k _ rfl (dd eI [dI 0] l k hlt) ?_; conv => whnf) | (refine AIx.at k _ rfl (dd eI [dI 0] l k ari) ?_; conv => whnf) | (refine AW.i64 ari ari ?_; conv => whnf) | (exact rr) | (refine And.intro rfl ?_; conv => whnf) | (refine AB.mk (fun h => ?_) (fun h => ?_) <;> (conv => whnf)))
    · refine aF.mk ⟨k + 1, hlt, by omega, ?_, ai.cons rfl (ai.cons (congrArg some (congrArg (AO.row 2 1) (fL eI [dI 0] l k hlt))) ai.nil)⟩
      exact hds
    · have : k = l.length := ari
      subst this
      exact ⟨_, _, l.map eI, Nat.le_refl _, by rw [cm]; exact Fam.blank (lo := S.w0.heap.size) (hi := S.w0.heap.size) (by simp [AD.isBl, eI]), by rw [cm], (fun y hy => by obtain ⟨a, _, rfl⟩ := List.mem_map.1 hy; rfl), rfl⟩
theorem Bh (l : (List (List Int))) (hs : l.length ≤ 1048576 ∧ ∀ y ∈ l, y.length ≤ 1048576) : bk av 158 [.one (.sl (l.map cG))] (.one (.sl (l.map cG))) := by
  have hl : l.length ≤ 1048576 := hs.1
  refine bj ah Tryz.func158 rfl Tryz.call158 Tryz.ntmps158 (congrArg Array.toList Tryz.results158) fun S => ?_; conv => whnf
  repeat' (first | (refine aw0 ?_) | (refine awx ?_; conv => whnf) | fail | (refine ⟨l.length, by simp, by simp, (show 24 * l.length ≤ _ by omega), by omega, ?_⟩; conv => whnf) | (exact rr) | (refine And.intro rfl ?_; conv => whnf) | (refine AB.mk (fun h => ?_) (fun h => ?_) <;> (conv => whnf)))
  refine AWP.loopS (fun g : Nat × Nat × List (List AD) => g.1 ≤ l.length ∧ g.2.2.length = g.1 ∧ S.w0.heap.size ≤ g.2.1 ∧ Fam S.w0.heap.size g.2.1 g.2.2.flatten ((l.take g.1).map cG).flatten) (7 :: [4, 8, 9, 10, 11, 12, 13, 14, 15, 16, 17, 18, 19, 20, 21]) (fun g => [(3, .one (.own 7)), (4, vI .i64 (g.1 : Int))]) (fun g => [(9997, cN S.w0.heap.size g.2.1), (7, .row 62 1 (g.2.2 ++ List.replicate (l.length - g.1) [.sl []]))]) (fun g => l.length - g.1) (0, S.w0.heap.size, []) ⟨Nat.zero_le _, rfl, Nat.le_refl _, Fam.blank rfl⟩ ?_ (ai.cons rfl (ai.cons rfl ai.nil)) (fun g hR => ?_) <;> (conv => whnf)
  · exact whd
  · obtain ⟨k, m, cs⟩ := g
    obtain ⟨hk, hcs, hm, hF⟩ := hR
    simp only at hk hcs hm hF
    repeat' (first | (refine aw0 ?_) | (refine awx ?_; conv => whnf) | fail | (refine AIx.mapF ari (fun hlt => ?_); conv => whnf) | (refine aa.fresh (lz _ (hs.2 _ (List.getElem_mem hlt))) rfl rfl fun R lo hi a1 a2 F => ?_; conv => whnf) | (refine AIx.at k _ rfl (EY _ hcs ari) ?_; conv => whnf) | (refine AW.i64 ari ari ?_; conv => whnf) | (exact rr) | (refine And.intro rfl ?_; conv => whnf) | (refine AB.mk (fun h => ?_) (fun h => ?_) <;> (conv => whnf)))
    · have a1 : m ≤ lo := a1
      refine aF.mk ⟨(k + 1, hi, cs ++ [dt R 0 (cG l[k])]), ⟨by simp only; omega, by simp [hcs], by simp only; omega, ?_⟩, by simp only; omega, ?_, ai.cons rfl (ai.cons (congrArg some (congrArg (AO.row 62 1) (Ca _ hcs (by omega)))) ai.nil)⟩
      · simp only
        rw [cu cG (by omega)]
        exact hF.flat_set F (by omega) (by omega) (by omega)
      · exact hds
    · have : k = l.length := ari
      subst this
      refine ⟨_, m, l.map cG, Nat.le_refl _, ?_, by simp [hcs], (fun y hy => by obtain ⟨a, _, rfl⟩ := List.mem_map.1 hy; rfl), rfl⟩
      simp only [Nat.sub_self, List.replicate_zero, List.append_nil]
      rw [List.take_length] at hF
      exact hF
theorem Em (x : DWrite) (hs : DWrite.small 1048576 x) : bk av 233 [.agg x.ds] (.agg x.ds) := by
  refine bj ah Tryz.func233 rfl Tryz.call233 Tryz.ntmps233 (congrArg Array.toList Tryz.results233) fun S => ?_; conv => whnf
  repeat' (first | (refine aw0 ?_) | (refine awx ?_; conv => whnf) | (refine aa.fresh (lz x.row hs) rfl rfl fun R1 l1 h1 a1 b1 F1 => ?_; conv => whnf) | (exact rr) | (refine And.intro rfl ?_; conv => whnf) | (refine AB.mk (fun h => ?_) (fun h => ?_) <;> (conv => whnf)))
  exact ⟨_, _, _, (by omega : S.w0.heap.size ≤ S.w0.heap.size), (Fam.app (Fam.blank (lo := S.w0.heap.size) (hi := S.w0.heap.size) (ds := [dI x.at_]) rfl) F1 (by omega) (by omega) (by omega)), rfl⟩
theorem CE (l : (List DWrite)) (hs : l.length ≤ 1048576 ∧ ∀ y ∈ l, DWrite.small 1048576 y) : bk av 159 [.one (.sl (l.map DWrite.ds))] (.one (.sl (l.map DWrite.ds))) := by
  have hl : l.length ≤ 1048576 := hs.1
  refine bj ah Tryz.func159 rfl Tryz.call159 Tryz.ntmps159 (congrArg Array.toList Tryz.results159) fun S => ?_; conv => whnf
  repeat' (first | (refine aw0 ?_) | (refine awx ?_; conv => whnf) | fail | (refine ⟨l.length, by simp, by simp, (show 32 * l.length ≤ _ by omega), by omega, ?_⟩; conv => whnf) | (exact rr) | (refine And.intro rfl ?_; conv => whnf) | (refine AB.mk (fun h => ?_) (fun h => ?_) <;> (conv => whnf)))
  refine AWP.loopS (fun g : Nat × Nat × List (List AD) => g.1 ≤ l.length ∧ g.2.2.length = g.1 ∧ S.w0.heap.size ≤ g.2.1 ∧ Fam S.w0.heap.size g.2.1 g.2.2.flatten ((l.take g.1).map DWrite.ds).flatten) (7 :: [4, 8, 9, 10, 11, 12, 13, 14, 15, 16, 17, 18, 19, 20, 21]) (fun g => [(3, .one (.own 7)), (4, vI .i64 (g.1 : Int))]) (fun g => [(9997, cN S.w0.heap.size g.2.1), (7, .row 289 2 (g.2.2 ++ List.replicate (l.length - g.1) [dI 0, .sl []]))]) (fun g => l.length - g.1) (0, S.w0.heap.size, []) ⟨Nat.zero_le _, rfl, Nat.le_refl _, Fam.blank rfl⟩ ?_ (ai.cons rfl (ai.cons rfl ai.nil)) (fun g hR => ?_) <;> (conv => whnf)
  · exact whd
  · obtain ⟨k, m, cs⟩ := g
    obtain ⟨hk, hcs, hm, hF⟩ := hR
    simp only at hk hcs hm hF
    repeat' (first | (refine aw0 ?_) | (refine awx ?_; conv => whnf) | fail | (refine AIx.mapF ari (fun hlt => ?_); conv => whnf) | (refine aa.fresh (Em _ (hs.2 _ (List.getElem_mem hlt))) rfl rfl fun R lo hi a1 a2 F => ?_; conv => whnf) | (refine AIx.at k _ rfl (EY _ hcs ari) ?_; conv => whnf) | (refine AW.i64 ari ari ?_; conv => whnf) | (exact rr) | (refine And.intro rfl ?_; conv => whnf) | (refine AB.mk (fun h => ?_) (fun h => ?_) <;> (conv => whnf)))
    · have a1 : m ≤ lo := a1
      refine aF.mk ⟨(k + 1, hi, cs ++ [dt R 0 (DWrite.ds l[k])]), ⟨by simp only; omega, by simp [hcs], by simp only; omega, ?_⟩, by simp only; omega, ?_, ai.cons rfl (ai.cons (congrArg some (congrArg (AO.row 289 2) (Ca _ hcs (by omega)))) ai.nil)⟩
      · simp only
        rw [cu DWrite.ds (by omega)]
        exact hF.flat_set F (by omega) (by omega) (by omega)
      · exact hds
    · have : k = l.length := ari
      subst this
      refine ⟨_, m, l.map DWrite.ds, Nat.le_refl _, ?_, by simp [hcs], (fun y hy => by obtain ⟨a, _, rfl⟩ := List.mem_map.1 hy; rfl), rfl⟩
      simp only [Nat.sub_self, List.replicate_zero, List.append_nil]
      rw [List.take_length] at hF
      exact hF
theorem vP (x : DDisk) (hs : DDisk.small 1048576 x) : bk av 85 [.agg x.ds] (.agg x.ds) := by
  refine bj ah Tryz.func85 rfl Tryz.call85 Tryz.ntmps85 (congrArg Array.toList Tryz.results85) fun S => ?_; conv => whnf
  repeat' (first | (refine aw0 ?_) | (refine awx ?_; conv => whnf) | (refine aa.fresh (Bh x.kept ⟨hs.1, hs.2.1⟩) rfl rfl fun R1 l1 h1 a1 b1 F1 => ?_; conv => whnf) | (refine aa.fresh (CE x.wait ⟨hs.2.2.1, hs.2.2.2⟩) rfl rfl fun R2 l2 h2 a2 b2 F2 => ?_; conv => whnf) | (exact rr) | (refine And.intro rfl ?_; conv => whnf) | (refine AB.mk (fun h => ?_) (fun h => ?_) <;> (conv => whnf)))
  exact ⟨_, _, _, (by omega : S.w0.heap.size ≤ l1), (Fam.app F1 F2 (by omega) (by omega) (by omega)), rfl⟩
theorem GN (x : DTwo) (hs : DTwo.small 1048576 x) : bk av 80 [.agg x.ds] (.agg x.ds) := by
  refine bj ah Tryz.func80 rfl Tryz.call80 Tryz.ntmps80 (congrArg Array.toList Tryz.results80) fun S => ?_; conv => whnf
  repeat' (first | (refine aw0 ?_) | (refine awx ?_; conv => whnf) | (refine aa.fresh (vP x.a hs.1) rfl rfl fun R1 l1 h1 a1 b1 F1 => ?_; conv => whnf) | (refine aa.fresh (vP x.b hs.2) rfl rfl fun R2 l2 h2 a2 b2 F2 => ?_; conv => whnf) | (exact rr) | (refine And.intro rfl ?_; conv => whnf) | (refine AB.mk (fun h => ?_) (fun h => ?_) <;> (conv => whnf)))
  exact ⟨_, _, _, (by omega : S.w0.heap.size ≤ l1), (Fam.app F1 F2 (by omega) (by omega) (by omega)), rfl⟩
theorem FG (x : DMark) : ak av 156 [.agg x.ds] (.val (.agg x.ds)) := by
  refine ac ah Tryz.func156 rfl Tryz.call156 Tryz.ntmps156 (congrArg Array.toList Tryz.results156) fun S => ?_; conv => whnf
  repeat' (first | (refine aw0 ?_) | (refine awx ?_; conv => whnf) | (exact rr) | (refine And.intro rfl ?_; conv => whnf) | (refine AB.mk (fun h => ?_) (fun h => ?_) <;> (conv => whnf)))
  all_goals rfl
theorem xE (l : (List DMark)) (hs : l.length ≤ 1048576) : bk av 83 [.one (.sl (l.map DMark.ds))] (.one (.sl (l.map DMark.ds))) := by
  have hl : l.length ≤ 1048576 := hs
  refine bj ah Tryz.func83 rfl Tryz.call83 Tryz.ntmps83 (congrArg Array.toList Tryz.results83) fun S => ?_; conv => whnf
  repeat' (first | (refine aw0 ?_) | (refine awx ?_; conv => whnf) | fail | (refine ⟨l.length, by simp, by simp, (show 24 * l.length ≤ _ by omega), by omega, ?_⟩; conv => whnf) | (exact rr) | (refine And.intro rfl ?_; conv => whnf) | (refine AB.mk (fun h => ?_) (fun h => ?_) <;> (conv => whnf)))
  refine AWP.loopS (fun k : Nat => k ≤ l.length) (7 :: [4, 8, 9, 10, 11, 12, 13, 14, 15, 16, 17, 18, 19, 20, 21]) (fun k => [(3, .one (.own 7)), (4, vI .i64 (k : Int))]) (fun k => [(9997, cN S.w0.heap.size S.w0.heap.size), (7, .row 231 3 (cpG DMark.ds [dI 0, dI 0, dI 0] l k))]) (fun k => l.length - k) 0 (by omega) ?_ (ai.cons rfl (ai.cons (congrArg some (congrArg (AO.row 231 3) (ez DMark.ds [dI 0, dI 0, dI 0] l).symm)) ai.nil)) (fun k hR => ?_) <;> (conv => whnf)
  · exact whd
  · repeat' (first | (refine aw0 ?_) | (refine awx ?_; conv => whnf) | fail | (refine AIx.mapF ari (fun hlt => ?_); conv => whnf) | (refine aa.pure (FG _) rfl ?_; conv => whnf) | (refine AIx.at k _ rfl (dd DMark.ds [dI 0, dI 0, dI 0] l k hlt) ?_; conv => whnf) | (refine AIx.at k _ rfl (dd DMark.ds [dI 0, dI 0, dI 0] l k ari) ?_; conv => whnf) | (refine AW.i64 ari ari ?_; conv => whnf) | (exact rr) | (refine And.intro rfl ?_; conv => whnf) | (refine AB.mk (fun h => ?_) (fun h => ?_) <;> (conv => whnf)))
    · refine aF.mk ⟨k + 1, hlt, by omega, ?_, ai.cons rfl (ai.cons (congrArg some (congrArg (AO.row 231 3) (fL DMark.ds [dI 0, dI 0, dI 0] l k hlt))) ai.nil)⟩
      exact hds
    · have : k = l.length := ari
      subst this
      exact ⟨_, _, l.map DMark.ds, Nat.le_refl _, by rw [cm]; exact Fam.blank (lo := S.w0.heap.size) (hi := S.w0.heap.size) (by simp [AD.isBl, DMark.ds]), by rw [cm], (fun y hy => by obtain ⟨a, _, rfl⟩ := List.mem_map.1 hy; rfl), rfl⟩
theorem Bg (x : DHead) (hs : DHead.small 1048576 x) : bk av 81 [.agg x.ds] (.agg x.ds) := by
  refine bj ah Tryz.func81 rfl Tryz.call81 Tryz.ntmps81 (congrArg Array.toList Tryz.results81) fun S => ?_; conv => whnf
  repeat' (first | (refine aw0 ?_) | (refine awx ?_; conv => whnf) | (refine aa.fresh (xE x.seen hs) rfl rfl fun R1 l1 h1 a1 b1 F1 => ?_; conv => whnf) | (exact rr) | (refine And.intro rfl ?_; conv => whnf) | (refine AB.mk (fun h => ?_) (fun h => ?_) <;> (conv => whnf)))
  exact ⟨_, _, _, (by omega : S.w0.heap.size ≤ S.w0.heap.size), (Fam.app (Fam.blank (lo := S.w0.heap.size) (hi := S.w0.heap.size) (ds := [dI x.num, dI x.base, dI x.time]) rfl) F1 (by omega) (by omega) (by omega)), rfl⟩
theorem CD (x : DOp) : ak av 88 [.agg x.ds] (.val (.agg x.ds)) := by
  refine ac ah Tryz.func88 rfl Tryz.call88 Tryz.ntmps88 (congrArg Array.toList Tryz.results88) fun S => ?_; conv => whnf
  repeat' (first | (refine aw0 ?_) | (refine awx ?_; conv => whnf) | (exact rr) | (refine And.intro rfl ?_; conv => whnf) | (refine AB.mk (fun h => ?_) (fun h => ?_) <;> (conv => whnf)))
  all_goals rfl
theorem Ee (x : DEntry) : ak av 232 [.agg x.ds] (.val (.agg x.ds)) := by
  refine ac ah Tryz.func232 rfl Tryz.call232 Tryz.ntmps232 (congrArg Array.toList Tryz.results232) fun S => ?_; conv => whnf
  repeat' (first | (refine aw0 ?_) | (refine awx ?_; conv => whnf) | (refine aa.pure (CD x.op) rfl ?_; conv => whnf) | (exact rr) | (refine And.intro rfl ?_; conv => whnf) | (refine AB.mk (fun h => ?_) (fun h => ?_) <;> (conv => whnf)))
  all_goals rfl
theorem CC (l : (List DEntry)) (hs : l.length ≤ 1048576) : bk av 155 [.one (.sl (l.map DEntry.ds))] (.one (.sl (l.map DEntry.ds))) := by
  have hl : l.length ≤ 1048576 := hs
  refine bj ah Tryz.func155 rfl Tryz.call155 Tryz.ntmps155 (congrArg Array.toList Tryz.results155) fun S => ?_; conv => whnf
  repeat' (first | (refine aw0 ?_) | (refine awx ?_; conv => whnf) | fail | (refine ⟨l.length, by simp, by simp, (show 72 * l.length ≤ _ by omega), by omega, ?_⟩; conv => whnf) | (exact rr) | (refine And.intro rfl ?_; conv => whnf) | (refine AB.mk (fun h => ?_) (fun h => ?_) <;> (conv => whnf)))
  refine AWP.loopS (fun k : Nat => k ≤ l.length) (7 :: [4, 8, 9, 10, 11, 12, 13, 14, 15, 16, 17, 18, 19, 20, 21]) (fun k => [(3, .one (.own 7)), (4, vI .i64 (k : Int))]) (fun k => [(9997, cN S.w0.heap.size S.w0.heap.size), (7, .row 291 9 (cpG DEntry.ds [dI 0, dI 0, dI 0, dI 0, dI 0, dI 0, dI 0, dI 0, dI 0] l k))]) (fun k => l.length - k) 0 (by omega) ?_ (ai.cons rfl (ai.cons (congrArg some (congrArg (AO.row 291 9) (ez DEntry.ds [dI 0, dI 0, dI 0, dI 0, dI 0, dI 0, dI 0, dI 0, dI 0] l).symm)) ai.nil)) (fun k hR => ?_) <;> (conv => whnf)
  · exact whd
  · repeat' (first | (refine aw0 ?_) | (refine awx ?_; conv => whnf) | fail | (refine AIx.mapF ari (fun hlt => ?_); conv => whnf) | (refine aa.pure (Ee _) rfl ?_; conv => whnf) | (refine AIx.at k _ rfl (dd DEntry.ds [dI 0, dI 0, dI 0, dI 0, dI 0, dI 0, dI 0, dI 0, dI 0] l k hlt) ?_; conv => whnf) | (refine AIx.at k _ rfl (dd DEntry.ds [dI 0, dI 0, dI 0, dI 0, dI 0, dI 0, dI 0, dI 0, dI 0] l k ari) ?_; conv => whnf) | (refine AW.i64 ari ari ?_; conv => whnf) | (exact rr) | (refine And.intro rfl ?_; conv => whnf) | (refine AB.mk (fun h => ?_) (fun h => ?_) <;> (conv => whnf)))
    · refine aF.mk ⟨k + 1, hlt, by omega, ?_, ai.cons rfl (ai.cons (congrArg some (congrArg (AO.row 291 9) (fL DEntry.ds [dI 0, dI 0, dI 0, dI 0, dI 0, dI 0, dI 0, dI 0, dI 0] l k hlt))) ai.nil)⟩
      exact hds
    · have : k = l.length := ari
      subst this
      exact ⟨_, _, l.map DEntry.ds, Nat.le_refl _, by rw [cm]; exact Fam.blank (lo := S.w0.heap.size) (hi := S.w0.heap.size) (by simp [AD.isBl, DEntry.ds]), by rw [cm], (fun y hy => by obtain ⟨a, _, rfl⟩ := List.mem_map.1 hy; rfl), rfl⟩
theorem FA (x : DBook) (hs : DBook.small 1048576 x) : bk av 82 [.agg x.ds] (.agg x.ds) := by
  refine bj ah Tryz.func82 rfl Tryz.call82 Tryz.ntmps82 (congrArg Array.toList Tryz.results82) fun S => ?_; conv => whnf
  repeat' (first | (refine aw0 ?_) | (refine awx ?_; conv => whnf) | (refine aa.fresh (CC x.entries hs) rfl rfl fun R1 l1 h1 a1 b1 F1 => ?_; conv => whnf) | (exact rr) | (refine And.intro rfl ?_; conv => whnf) | (refine AB.mk (fun h => ?_) (fun h => ?_) <;> (conv => whnf)))
  exact ⟨_, _, _, (by omega : S.w0.heap.size ≤ S.w0.heap.size), (Fam.app (Fam.blank (lo := S.w0.heap.size) (hi := S.w0.heap.size) (ds := [dI x.base, dI x.time]) rfl) F1 (by omega) (by omega) (by omega)), rfl⟩
theorem GH (x : DAck) : ak av 157 [.agg x.ds] (.val (.agg x.ds)) := by
  refine ac ah Tryz.func157 rfl Tryz.call157 Tryz.ntmps157 (congrArg Array.toList Tryz.results157) fun S => ?_; conv => whnf
  repeat' (first | (refine aw0 ?_) | (refine awx ?_; conv => whnf) | (exact rr) | (refine And.intro rfl ?_; conv => whnf) | (refine AB.mk (fun h => ?_) (fun h => ?_) <;> (conv => whnf)))
  all_goals rfl
theorem Fz (l : (List DAck)) (hs : l.length ≤ 1048576) : bk av 84 [.one (.sl (l.map DAck.ds))] (.one (.sl (l.map DAck.ds))) := by
  have hl : l.length ≤ 1048576 := hs
  refine bj ah Tryz.func84 rfl Tryz.call84 Tryz.ntmps84 (congrArg Array.toList Tryz.results84) fun S => ?_; conv => whnf
  repeat' (first | (refine aw0 ?_) | (refine awx ?_; conv => whnf) | fail | (refine ⟨l.length, by simp, by simp, (show 32 * l.length ≤ _ by omega), by omega, ?_⟩; conv => whnf) | (exact rr) | (refine And.intro rfl ?_; conv => whnf) | (refine AB.mk (fun h => ?_) (fun h => ?_) <;> (conv => whnf)))
  refine AWP.loopS (fun k : Nat => k ≤ l.length) (7 :: [4, 8, 9, 10, 11, 12, 13, 14, 15, 16, 17, 18, 19, 20, 21]) (fun k => [(3, .one (.own 7)), (4, vI .i64 (k : Int))]) (fun k => [(9997, cN S.w0.heap.size S.w0.heap.size), (7, .row 235 4 (cpG DAck.ds [dI 0, dI 0, dI 0, dI 0] l k))]) (fun k => l.length - k) 0 (by omega) ?_ (ai.cons rfl (ai.cons (congrArg some (congrArg (AO.row 235 4) (ez DAck.ds [dI 0, dI 0, dI 0, dI 0] l).symm)) ai.nil)) (fun k hR => ?_) <;> (conv => whnf)
  · exact whd
  · repeat' (first | (refine aw0 ?_) | (refine awx ?_; conv => whnf) | fail | (refine AIx.mapF ari (fun hlt => ?_); conv => whnf) | (refine aa.pure (GH _) rfl ?_; conv => whnf) | (refine AIx.at k _ rfl (dd DAck.ds [dI 0, dI 0, dI 0, dI 0] l k hlt) ?_; conv => whnf) | (refine AIx.at k _ rfl (dd DAck.ds [dI 0, dI 0, dI 0, dI 0] l k ari) ?_; conv => whnf) | (refine AW.i64 ari ari ?_; conv => whnf) | (exact rr) | (refine And.intro rfl ?_; conv => whnf) | (refine AB.mk (fun h => ?_) (fun h => ?_) <;> (conv => whnf)))
    · refine aF.mk ⟨k + 1, hlt, by omega, ?_, ai.cons rfl (ai.cons (congrArg some (congrArg (AO.row 235 4) (fL DAck.ds [dI 0, dI 0, dI 0, dI 0] l k hlt))) ai.nil)⟩
      exact hds
    · have : k = l.length := ari
      subst this
      exact ⟨_, _, l.map DAck.ds, Nat.le_refl _, by rw [cm]; exact Fam.blank (lo := S.w0.heap.size) (hi := S.w0.heap.size) (by simp [AD.isBl, DAck.ds]), by rw [cm], (fun y hy => by obtain ⟨a, _, rfl⟩ := List.mem_map.1 hy; rfl), rfl⟩
theorem Bi (x : DLogNode) (hs : DLogNode.small 1048576 x) : bk av 23 [.agg x.ds] (.agg x.ds) := by
  refine bj ah Tryz.func23 rfl Tryz.call23 Tryz.ntmps23 (congrArg Array.toList Tryz.results23) fun S => ?_; conv => whnf
  repeat' (first | (refine aw0 ?_) | (refine awx ?_; conv => whnf) | (refine aa.fresh (GN x.two hs.1) rfl rfl fun R1 l1 h1 a1 b1 F1 => ?_; conv => whnf) | (refine aa.fresh (Bg x.head hs.2.1) rfl rfl fun R2 l2 h2 a2 b2 F2 => ?_; conv => whnf) | (refine aa.fresh (Bg x.nxt hs.2.2.1) rfl rfl fun R3 l3 h3 a3 b3 F3 => ?_; conv => whnf) | (refine aa.fresh (FA x.book hs.2.2.2.1) rfl rfl fun R4 l4 h4 a4 b4 F4 => ?_; conv => whnf) | (refine aa.fresh (xE x.seen hs.2.2.2.2.1) rfl rfl fun R5 l5 h5 a5 b5 F5 => ?_; conv => whnf) | (refine aa.fresh (Fz x.owe hs.2.2.2.2.2) rfl rfl fun R6 l6 h6 a6 b6 F6 => ?_; conv => whnf) | (exact rr) | (refine And.intro rfl ?_; conv => whnf) | (refine AB.mk (fun h => ?_) (fun h => ?_) <;> (conv => whnf)))
  exact ⟨_, _, _, (by omega : S.w0.heap.size ≤ l1), (Fam.app (Fam.app (Fam.app (Fam.app (Fam.app (Fam.app (Fam.app F1 F2 (by omega) (by omega) (by omega)) F3 (by omega) (by omega) (by omega)) (Fam.blank (lo := h3) (hi := h3) (ds := [dB x.more]) rfl) (by omega) (by omega) (by omega)) F4 (by omega) (by omega) (by omega)) F5 (by omega) (by omega) (by omega)) (Fam.blank (lo := h5) (hi := h5) (ds := [dI x.durable]) rfl) (by omega) (by omega) (by omega)) F6 (by omega) (by omega) (by omega)), rfl⟩
theorem FI (x : DPair) : ak av 234 [.agg x.ds] (.val (.agg x.ds)) := by
  refine ac ah Tryz.func234 rfl Tryz.call234 Tryz.ntmps234 (congrArg Array.toList Tryz.results234) fun S => ?_; conv => whnf
  repeat' (first | (refine aw0 ?_) | (refine awx ?_; conv => whnf) | (exact rr) | (refine And.intro rfl ?_; conv => whnf) | (refine AB.mk (fun h => ?_) (fun h => ?_) <;> (conv => whnf)))
  all_goals rfl
theorem Eh (l : (List DPair)) (hs : l.length ≤ 1048576) : bk av 160 [.one (.sl (l.map DPair.ds))] (.one (.sl (l.map DPair.ds))) := by
  have hl : l.length ≤ 1048576 := hs
  refine bj ah Tryz.func160 rfl Tryz.call160 Tryz.ntmps160 (congrArg Array.toList Tryz.results160) fun S => ?_; conv => whnf
  repeat' (first | (refine aw0 ?_) | (refine awx ?_; conv => whnf) | fail | (refine ⟨l.length, by simp, by simp, (show 16 * l.length ≤ _ by omega), by omega, ?_⟩; conv => whnf) | (exact rr) | (refine And.intro rfl ?_; conv => whnf) | (refine AB.mk (fun h => ?_) (fun h => ?_) <;> (conv => whnf)))
  refine AWP.loopS (fun k : Nat => k ≤ l.length) (7 :: [4, 8, 9, 10, 11, 12, 13, 14, 15, 16, 17, 18, 19, 20, 21]) (fun k => [(3, .one (.own 7)), (4, vI .i64 (k : Int))]) (fun k => [(9997, cN S.w0.heap.size S.w0.heap.size), (7, .row 297 2 (cpG DPair.ds [dI 0, dI 0] l k))]) (fun k => l.length - k) 0 (by omega) ?_ (ai.cons rfl (ai.cons (congrArg some (congrArg (AO.row 297 2) (ez DPair.ds [dI 0, dI 0] l).symm)) ai.nil)) (fun k hR => ?_) <;> (conv => whnf)
  · exact whd
  · repeat' (first | (refine aw0 ?_) | (refine awx ?_; conv => whnf) | fail | (refine AIx.mapF ari (fun hlt => ?_); conv => whnf) | (refine aa.pure (FI _) rfl ?_; conv => whnf) | (refine AIx.at k _ rfl (dd DPair.ds [dI 0, dI 0] l k hlt) ?_; conv => whnf) | (refine AIx.at k _ rfl (dd DPair.ds [dI 0, dI 0] l k ari) ?_; conv => whnf) | (refine AW.i64 ari ari ?_; conv => whnf) | (exact rr) | (refine And.intro rfl ?_; conv => whnf) | (refine AB.mk (fun h => ?_) (fun h => ?_) <;> (conv => whnf)))
    · refine aF.mk ⟨k + 1, hlt, by omega, ?_, ai.cons rfl (ai.cons (congrArg some (congrArg (AO.row 297 2) (fL DPair.ds [dI 0, dI 0] l k hlt))) ai.nil)⟩
      exact hds
    · have : k = l.length := ari
      subst this
      exact ⟨_, _, l.map DPair.ds, Nat.le_refl _, by rw [cm]; exact Fam.blank (lo := S.w0.heap.size) (hi := S.w0.heap.size) (by simp [AD.isBl, DPair.ds]), by rw [cm], (fun y hy => by obtain ⟨a, _, rfl⟩ := List.mem_map.1 hy; rfl), rfl⟩
theorem GK (x : DJob) : ak av 235 [.agg x.ds] (.val (.agg x.ds)) := by
  refine ac ah Tryz.func235 rfl Tryz.call235 Tryz.ntmps235 (congrArg Array.toList Tryz.results235) fun S => ?_; conv => whnf
  repeat' (first | (refine aw0 ?_) | (refine awx ?_; conv => whnf) | (exact rr) | (refine And.intro rfl ?_; conv => whnf) | (refine AB.mk (fun h => ?_) (fun h => ?_) <;> (conv => whnf)))
  all_goals rfl
theorem FD (l : (List DJob)) (hs : l.length ≤ 1048576) : bk av 161 [.one (.sl (l.map DJob.ds))] (.one (.sl (l.map DJob.ds))) := by
  have hl : l.length ≤ 1048576 := hs
  refine bj ah Tryz.func161 rfl Tryz.call161 Tryz.ntmps161 (congrArg Array.toList Tryz.results161) fun S => ?_; conv => whnf
  repeat' (first | (refine aw0 ?_) | (refine awx ?_; conv => whnf) | fail | (refine ⟨l.length, by simp, by simp, (show 40 * l.length ≤ _ by omega), by omega, ?_⟩; conv => whnf) | (exact rr) | (refine And.intro rfl ?_; conv => whnf) | (refine AB.mk (fun h => ?_) (fun h => ?_) <;> (conv => whnf)))
  refine AWP.loopS (fun k : Nat => k ≤ l.length) (7 :: [4, 8, 9, 10, 11, 12, 13, 14, 15, 16, 17, 18, 19, 20, 21]) (fun k => [(3, .one (.own 7)), (4, vI .i64 (k : Int))]) (fun k => [(9997, cN S.w0.heap.size S.w0.heap.size), (7, .row 301 5 (cpG DJob.ds [dI 0, dI 0, dI 0, dI 0, dI 0] l k))]) (fun k => l.length - k) 0 (by omega) ?_ (ai.cons rfl (ai.cons (congrArg some (congrArg (AO.row 301 5) (ez DJob.ds [dI 0, dI 0, dI 0, dI 0, dI 0] l).symm)) ai.nil)) (fun k hR => ?_) <;> (conv => whnf)
  · exact whd
  · repeat' (first | (refine aw0 ?_) | (refine awx ?_; conv => whnf) | fail | (refine AIx.mapF ari (fun hlt => ?_); conv => whnf) | (refine aa.pure (GK _) rfl ?_; conv => whnf) | (refine AIx.at k _ rfl (dd DJob.ds [dI 0, dI 0, dI 0, dI 0, dI 0] l k hlt) ?_; conv => whnf) | (refine AIx.at k _ rfl (dd DJob.ds [dI 0, dI 0, dI 0, dI 0, dI 0] l k ari) ?_; conv => whnf) | (refine AW.i64 ari ari ?_; conv => whnf) | (exact rr) | (refine And.intro rfl ?_; conv => whnf) | (refine AB.mk (fun h => ?_) (fun h => ?_) <;> (conv => whnf)))
    · refine aF.mk ⟨k + 1, hlt, by omega, ?_, ai.cons rfl (ai.cons (congrArg some (congrArg (AO.row 301 5) (fL DJob.ds [dI 0, dI 0, dI 0, dI 0, dI 0] l k hlt))) ai.nil)⟩
      exact hds
    · have : k = l.length := ari
      subst this
      exact ⟨_, _, l.map DJob.ds, Nat.le_refl _, by rw [cm]; exact Fam.blank (lo := S.w0.heap.size) (hi := S.w0.heap.size) (by simp [AD.isBl, DJob.ds]), by rw [cm], (fun y hy => by obtain ⟨a, _, rfl⟩ := List.mem_map.1 hy; rfl), rfl⟩
theorem Ef (x : DLease) : ak av 162 [.agg x.ds] (.val (.agg x.ds)) := by
  refine ac ah Tryz.func162 rfl Tryz.call162 Tryz.ntmps162 (congrArg Array.toList Tryz.results162) fun S => ?_; conv => whnf
  repeat' (first | (refine aw0 ?_) | (refine awx ?_; conv => whnf) | (exact rr) | (refine And.intro rfl ?_; conv => whnf) | (refine AB.mk (fun h => ?_) (fun h => ?_) <;> (conv => whnf)))
  all_goals rfl
theorem Ei (x : DState) (hs : DState.small 1048576 x) : bk av 86 [.agg x.ds] (.agg x.ds) := by
  refine bj ah Tryz.func86 rfl Tryz.call86 Tryz.ntmps86 (congrArg Array.toList Tryz.results86) fun S => ?_; conv => whnf
  repeat' (first | (refine aw0 ?_) | (refine awx ?_; conv => whnf) | (refine aa.pure (Ef x.lease) rfl ?_; conv => whnf) | (refine aa.fresh (Eh x.pairs hs.1) rfl rfl fun R1 l1 h1 a1 b1 F1 => ?_; conv => whnf) | (refine aa.fresh (FD x.jobs hs.2) rfl rfl fun R2 l2 h2 a2 b2 F2 => ?_; conv => whnf) | (exact rr) | (refine And.intro rfl ?_; conv => whnf) | (refine AB.mk (fun h => ?_) (fun h => ?_) <;> (conv => whnf)))
  exact ⟨_, _, _, (by omega : S.w0.heap.size ≤ S.w0.heap.size), (Fam.app (Fam.app (Fam.app (Fam.blank (lo := S.w0.heap.size) (hi := S.w0.heap.size) (ds := [dI x.index, dI x.time]) rfl) F1 (by omega) (by omega) (by omega)) F2 (by omega) (by omega) (by omega)) (Fam.blank (lo := h2) (hi := h2) (ds := [dI x.lease.holder, dI x.lease.epoch, dI x.lease.til]) rfl) (by omega) (by omega) (by omega)), rfl⟩
theorem Ej (x : DStore) (hs : DStore.small 1048576 x) : bk av 24 [.agg x.ds] (.agg x.ds) := by
  refine bj ah Tryz.func24 rfl Tryz.call24 Tryz.ntmps24 (congrArg Array.toList Tryz.results24) fun S => ?_; conv => whnf
  repeat' (first | (refine aw0 ?_) | (refine awx ?_; conv => whnf) | (refine aa.fresh (vP x.disk hs.1) rfl rfl fun R1 l1 h1 a1 b1 F1 => ?_; conv => whnf) | (refine aa.fresh (Ei x.state hs.2) rfl rfl fun R2 l2 h2 a2 b2 F2 => ?_; conv => whnf) | (exact rr) | (refine And.intro rfl ?_; conv => whnf) | (refine AB.mk (fun h => ?_) (fun h => ?_) <;> (conv => whnf)))
  exact ⟨_, _, _, (by omega : S.w0.heap.size ≤ l1), (Fam.app (Fam.app F1 F2 (by omega) (by omega) (by omega)) (Fam.blank (lo := h2) (hi := h2) (ds := [dI x.num, dI x.last, dI x.busy]) rfl) (by omega) (by omega) (by omega)), rfl⟩
theorem GI (x : DDue) : ak av 281 [.agg x.ds] (.val (.agg x.ds)) := by
  refine ac ah Tryz.func281 rfl Tryz.call281 Tryz.ntmps281 (congrArg Array.toList Tryz.results281) fun S => ?_; conv => whnf
  repeat' (first | (refine aw0 ?_) | (refine awx ?_; conv => whnf) | (exact rr) | (refine And.intro rfl ?_; conv => whnf) | (refine AB.mk (fun h => ?_) (fun h => ?_) <;> (conv => whnf)))
  all_goals rfl
theorem FB (l : (List DDue)) (hs : l.length ≤ 1048576) : bk av 236 [.one (.sl (l.map DDue.ds))] (.one (.sl (l.map DDue.ds))) := by
  have hl : l.length ≤ 1048576 := hs
  refine bj ah Tryz.func236 rfl Tryz.call236 Tryz.ntmps236 (congrArg Array.toList Tryz.results236) fun S => ?_; conv => whnf
  repeat' (first | (refine aw0 ?_) | (refine awx ?_; conv => whnf) | fail | (refine ⟨l.length, by simp, by simp, (show 16 * l.length ≤ _ by omega), by omega, ?_⟩; conv => whnf) | (exact rr) | (refine And.intro rfl ?_; conv => whnf) | (refine AB.mk (fun h => ?_) (fun h => ?_) <;> (conv => whnf)))
  refine AWP.loopS (fun k : Nat => k ≤ l.length) (7 :: [4, 8, 9, 10, 11, 12, 13, 14, 15, 16, 17, 18, 19, 20, 21]) (fun k => [(3, .one (.own 7)), (4, vI .i64 (k : Int))]) (fun k => [(9997, cN S.w0.heap.size S.w0.heap.size), (7, .row 330 2 (cpG DDue.ds [dI 0, dI 0] l k))]) (fun k => l.length - k) 0 (by omega) ?_ (ai.cons rfl (ai.cons (congrArg some (congrArg (AO.row 330 2) (ez DDue.ds [dI 0, dI 0] l).symm)) ai.nil)) (fun k hR => ?_) <;> (conv => whnf)
  · exact whd
  · repeat' (first | (refine aw0 ?_) | (refine awx ?_; conv => whnf) | fail | (refine AIx.mapF ari (fun hlt => ?_); conv => whnf) | (refine aa.pure (GI _) rfl ?_; conv => whnf) | (refine AIx.at k _ rfl (dd DDue.ds [dI 0, dI 0] l k hlt) ?_; conv => whnf) | (refine AIx.at k _ rfl (dd DDue.ds [dI 0, dI 0] l k ari) ?_; conv => whnf) | (refine AW.i64 ari ari ?_; conv => whnf) | (exact rr) | (refine And.intro rfl ?_; conv => whnf) | (refine AB.mk (fun h => ?_) (fun h => ?_) <;> (conv => whnf)))
    · refine aF.mk ⟨k + 1, hlt, by omega, ?_, ai.cons rfl (ai.cons (congrArg some (congrArg (AO.row 330 2) (fL DDue.ds [dI 0, dI 0] l k hlt))) ai.nil)⟩
      exact hds
    · have : k = l.length := ari
      subst this
      exact ⟨_, _, l.map DDue.ds, Nat.le_refl _, by rw [cm]; exact Fam.blank (lo := S.w0.heap.size) (hi := S.w0.heap.size) (by simp [AD.isBl, DDue.ds]), by rw [cm], (fun y hy => by obtain ⟨a, _, rfl⟩ := List.mem_map.1 hy; rfl), rfl⟩
theorem FE (x : DJobs) (hs : DJobs.small 1048576 x) : bk av 163 [.agg x.ds] (.agg x.ds) := by
  refine bj ah Tryz.func163 rfl Tryz.call163 Tryz.ntmps163 (congrArg Array.toList Tryz.results163) fun S => ?_; conv => whnf
  repeat' (first | (refine aw0 ?_) | (refine awx ?_; conv => whnf) | (refine aa.fresh (FB x.opens hs) rfl rfl fun R1 l1 h1 a1 b1 F1 => ?_; conv => whnf) | (exact rr) | (refine And.intro rfl ?_; conv => whnf) | (refine AB.mk (fun h => ?_) (fun h => ?_) <;> (conv => whnf)))
  exact ⟨_, _, _, (by omega : S.w0.heap.size ≤ S.w0.heap.size), (Fam.app (Fam.blank (lo := S.w0.heap.size) (hi := S.w0.heap.size) (ds := [dI x.index, dI x.time, dI x.holder, dI x.epoch, dI x.til]) rfl) F1 (by omega) (by omega) (by omega)), rfl⟩
theorem FJ (x : DView) (hs : DView.small 1048576 x) : bk av 87 [.agg x.ds] (.agg x.ds) := by
  refine bj ah Tryz.func87 rfl Tryz.call87 Tryz.ntmps87 (congrArg Array.toList Tryz.results87) fun S => ?_; conv => whnf
  repeat' (first | (refine aw0 ?_) | (refine awx ?_; conv => whnf) | (refine aa.fresh (FE x.jobs hs) rfl rfl fun R1 l1 h1 a1 b1 F1 => ?_; conv => whnf) | (exact rr) | (refine And.intro rfl ?_; conv => whnf) | (refine AB.mk (fun h => ?_) (fun h => ?_) <;> (conv => whnf)))
  exact ⟨_, _, _, (by omega : S.w0.heap.size ≤ l1), F1, rfl⟩
theorem xF (x : DSched) (hs : DSched.small 1048576 x) : bk av 25 [.agg x.ds] (.agg x.ds) := by
  refine bj ah Tryz.func25 rfl Tryz.call25 Tryz.ntmps25 (congrArg Array.toList Tryz.results25) fun S => ?_; conv => whnf
  repeat' (first | (refine aw0 ?_) | (refine awx ?_; conv => whnf) | (refine aa.pure (CD x.op) rfl ?_; conv => whnf) | (refine aa.fresh (FJ x.view hs) rfl rfl fun R1 l1 h1 a1 b1 F1 => ?_; conv => whnf) | (exact rr) | (refine And.intro rfl ?_; conv => whnf) | (refine AB.mk (fun h => ?_) (fun h => ?_) <;> (conv => whnf)))
  exact ⟨_, _, _, (by omega : S.w0.heap.size ≤ S.w0.heap.size), (Fam.app (Fam.app (Fam.blank (lo := S.w0.heap.size) (hi := S.w0.heap.size) (ds := [dI x.id, dI x.seq]) rfl) F1 (by omega) (by omega) (by omega)) (Fam.blank (lo := h1) (hi := h1) (ds := [dB x.busy, dI x.op.kind, dI x.op.a, dI x.op.b, dI x.op.c, dI x.op.d, dI x.index]) rfl) (by omega) (by omega) (by omega)), rfl⟩
theorem FK (x : DWant) : ak av 164 [.agg x.ds] (.val (.agg x.ds)) := by
  refine ac ah Tryz.func164 rfl Tryz.call164 Tryz.ntmps164 (congrArg Array.toList Tryz.results164) fun S => ?_; conv => whnf
  repeat' (first | (refine aw0 ?_) | (refine awx ?_; conv => whnf) | (refine aa.pure (CD x.op) rfl ?_; conv => whnf) | (exact rr) | (refine And.intro rfl ?_; conv => whnf) | (refine AB.mk (fun h => ?_) (fun h => ?_) <;> (conv => whnf)))
  all_goals rfl
theorem Ek (l : (List DWant)) (hs : l.length ≤ 1048576) : bk av 89 [.one (.sl (l.map DWant.ds))] (.one (.sl (l.map DWant.ds))) := by
  have hl : l.length ≤ 1048576 := hs
  refine bj ah Tryz.func89 rfl Tryz.call89 Tryz.ntmps89 (congrArg Array.toList Tryz.results89) fun S => ?_; conv => whnf
  repeat' (first | (refine aw0 ?_) | (refine awx ?_; conv => whnf) | fail | (refine ⟨l.length, by simp, by simp, (show 56 * l.length ≤ _ by omega), by omega, ?_⟩; conv => whnf) | (exact rr) | (refine And.intro rfl ?_; conv => whnf) | (refine AB.mk (fun h => ?_) (fun h => ?_) <;> (conv => whnf)))
  refine AWP.loopS (fun k : Nat => k ≤ l.length) (7 :: [4, 8, 9, 10, 11, 12, 13, 14, 15, 16, 17, 18, 19, 20, 21]) (fun k => [(3, .one (.own 7)), (4, vI .i64 (k : Int))]) (fun k => [(9997, cN S.w0.heap.size S.w0.heap.size), (7, .row 217 7 (cpG DWant.ds [dI 0, dI 0, dI 0, dI 0, dI 0, dI 0, dI 0] l k))]) (fun k => l.length - k) 0 (by omega) ?_ (ai.cons rfl (ai.cons (congrArg some (congrArg (AO.row 217 7) (ez DWant.ds [dI 0, dI 0, dI 0, dI 0, dI 0, dI 0, dI 0] l).symm)) ai.nil)) (fun k hR => ?_) <;> (conv => whnf)
  · exact whd
  · repeat' (first | (refine aw0 ?_) | (refine awx ?_; conv => whnf) | fail | (refine AIx.mapF ari (fun hlt => ?_); conv => whnf) | (refine aa.pure (FK _) rfl ?_; conv => whnf) | (refine AIx.at k _ rfl (dd DWant.ds [dI 0, dI 0, dI 0, dI 0, dI 0, dI 0, dI 0] l k hlt) ?_; conv => whnf) | (refine AIx.at k _ rfl (dd DWant.ds [dI 0, dI 0, dI 0, dI 0, dI 0, dI 0, dI 0] l k ari) ?_; conv => whnf) | (refine AW.i64 ari ari ?_; conv => whnf) | (exact rr) | (refine And.intro rfl ?_; conv => whnf) | (refine AB.mk (fun h => ?_) (fun h => ?_) <;> (conv => whnf)))
    · refine aF.mk ⟨k + 1, hlt, by omega, ?_, ai.cons rfl (ai.cons (congrArg some (congrArg (AO.row 217 7) (fL DWant.ds [dI 0, dI 0, dI 0, dI 0, dI 0, dI 0, dI 0] l k hlt))) ai.nil)⟩
      exact hds
    · have : k = l.length := ari
      subst this
      exact ⟨_, _, l.map DWant.ds, Nat.le_refl _, by rw [cm]; exact Fam.blank (lo := S.w0.heap.size) (hi := S.w0.heap.size) (by simp [AD.isBl, DWant.ds]), by rw [cm], (fun y hy => by obtain ⟨a, _, rfl⟩ := List.mem_map.1 hy; rfl), rfl⟩
theorem GJ (x : DGot) : ak av 165 [.agg x.ds] (.val (.agg x.ds)) := by
  refine ac ah Tryz.func165 rfl Tryz.call165 Tryz.ntmps165 (congrArg Array.toList Tryz.results165) fun S => ?_; conv => whnf
  repeat' (first | (refine aw0 ?_) | (refine awx ?_; conv => whnf) | (exact rr) | (refine And.intro rfl ?_; conv => whnf) | (refine AB.mk (fun h => ?_) (fun h => ?_) <;> (conv => whnf)))
  all_goals rfl
theorem FC (l : (List DGot)) (hs : l.length ≤ 1048576) : bk av 90 [.one (.sl (l.map DGot.ds))] (.one (.sl (l.map DGot.ds))) := by
  have hl : l.length ≤ 1048576 := hs
  refine bj ah Tryz.func90 rfl Tryz.call90 Tryz.ntmps90 (congrArg Array.toList Tryz.results90) fun S => ?_; conv => whnf
  repeat' (first | (refine aw0 ?_) | (refine awx ?_; conv => whnf) | fail | (refine ⟨l.length, by simp, by simp, (show 32 * l.length ≤ _ by omega), by omega, ?_⟩; conv => whnf) | (exact rr) | (refine And.intro rfl ?_; conv => whnf) | (refine AB.mk (fun h => ?_) (fun h => ?_) <;> (conv => whnf)))
  refine AWP.loopS (fun k : Nat => k ≤ l.length) (7 :: [4, 8, 9, 10, 11, 12, 13, 14, 15, 16, 17, 18, 19, 20, 21]) (fun k => [(3, .one (.own 7)), (4, vI .i64 (k : Int))]) (fun k => [(9997, cN S.w0.heap.size S.w0.heap.size), (7, .row 220 4 (cpG DGot.ds [dI 0, dI 0, dI 0, dI 0] l k))]) (fun k => l.length - k) 0 (by omega) ?_ (ai.cons rfl (ai.cons (congrArg some (congrArg (AO.row 220 4) (ez DGot.ds [dI 0, dI 0, dI 0, dI 0] l).symm)) ai.nil)) (fun k hR => ?_) <;> (conv => whnf)
  · exact whd
  · repeat' (first | (refine aw0 ?_) | (refine awx ?_; conv => whnf) | fail | (refine AIx.mapF ari (fun hlt => ?_); conv => whnf) | (refine aa.pure (GJ _) rfl ?_; conv => whnf) | (refine AIx.at k _ rfl (dd DGot.ds [dI 0, dI 0, dI 0, dI 0] l k hlt) ?_; conv => whnf) | (refine AIx.at k _ rfl (dd DGot.ds [dI 0, dI 0, dI 0, dI 0] l k ari) ?_; conv => whnf) | (refine AW.i64 ari ari ?_; conv => whnf) | (exact rr) | (refine And.intro rfl ?_; conv => whnf) | (refine AB.mk (fun h => ?_) (fun h => ?_) <;> (conv => whnf)))
    · refine aF.mk ⟨k + 1, hlt, by omega, ?_, ai.cons rfl (ai.cons (congrArg some (congrArg (AO.row 220 4) (fL DGot.ds [dI 0, dI 0, dI 0, dI 0] l k hlt))) ai.nil)⟩
      exact hds
    · have : k = l.length := ari
      subst this
      exact ⟨_, _, l.map DGot.ds, Nat.le_refl _, by rw [cm]; exact Fam.blank (lo := S.w0.heap.size) (hi := S.w0.heap.size) (by simp [AD.isBl, DGot.ds]), by rw [cm], (fun y hy => by obtain ⟨a, _, rfl⟩ := List.mem_map.1 hy; rfl), rfl⟩
theorem vO (x : DClient) (hs : DClient.small 1048576 x) : bk av 26 [.agg x.ds] (.agg x.ds) := by
  refine bj ah Tryz.func26 rfl Tryz.call26 Tryz.ntmps26 (congrArg Array.toList Tryz.results26) fun S => ?_; conv => whnf
  repeat' (first | (refine aw0 ?_) | (refine awx ?_; conv => whnf) | (refine aa.fresh (Ek x.todo hs.1) rfl rfl fun R1 l1 h1 a1 b1 F1 => ?_; conv => whnf) | (refine aa.fresh (FC x.gots hs.2) rfl rfl fun R2 l2 h2 a2 b2 F2 => ?_; conv => whnf) | (exact rr) | (refine And.intro rfl ?_; conv => whnf) | (refine AB.mk (fun h => ?_) (fun h => ?_) <;> (conv => whnf)))
  exact ⟨_, _, _, (by omega : S.w0.heap.size ≤ S.w0.heap.size), (Fam.app (Fam.app (Fam.app (Fam.blank (lo := S.w0.heap.size) (hi := S.w0.heap.size) (ds := [dI x.id]) rfl) F1 (by omega) (by omega) (by omega)) F2 (by omega) (by omega) (by omega)) (Fam.blank (lo := h2) (hi := h2) (ds := [dI x.last]) rfl) (by omega) (by omega) (by omega)), rfl⟩
theorem GL (x : DMsg) (hs : DMsg.small 1048576 x) : bk av 166 [.agg x.ds] (.agg x.ds) := by
  refine bj ah Tryz.func166 rfl Tryz.call166 Tryz.ntmps166 (congrArg Array.toList Tryz.results166) fun S => ?_; conv => whnf
  repeat' (first | (refine aw0 ?_) | (refine awx ?_; conv => whnf) | (refine aa.fresh (lz x.row hs) rfl rfl fun R1 l1 h1 a1 b1 F1 => ?_; conv => whnf) | (exact rr) | (refine And.intro rfl ?_; conv => whnf) | (refine AB.mk (fun h => ?_) (fun h => ?_) <;> (conv => whnf)))
  exact ⟨_, _, _, (by omega : S.w0.heap.size ≤ S.w0.heap.size), (Fam.app (Fam.blank (lo := S.w0.heap.size) (hi := S.w0.heap.size) (ds := [dI x.frm, dI x.to_]) rfl) F1 (by omega) (by omega) (by omega)), rfl⟩
theorem FH (l : (List DMsg)) (hs : l.length ≤ 1048576 ∧ ∀ y ∈ l, DMsg.small 1048576 y) : bk av 91 [.one (.sl (l.map DMsg.ds))] (.one (.sl (l.map DMsg.ds))) := by
  have hl : l.length ≤ 1048576 := hs.1
  refine bj ah Tryz.func91 rfl Tryz.call91 Tryz.ntmps91 (congrArg Array.toList Tryz.results91) fun S => ?_; conv => whnf
  repeat' (first | (refine aw0 ?_) | (refine awx ?_; conv => whnf) | fail | (refine ⟨l.length, by simp, by simp, (show 40 * l.length ≤ _ by omega), by omega, ?_⟩; conv => whnf) | (exact rr) | (refine And.intro rfl ?_; conv => whnf) | (refine AB.mk (fun h => ?_) (fun h => ?_) <;> (conv => whnf)))
  refine AWP.loopS (fun g : Nat × Nat × List (List AD) => g.1 ≤ l.length ∧ g.2.2.length = g.1 ∧ S.w0.heap.size ≤ g.2.1 ∧ Fam S.w0.heap.size g.2.1 g.2.2.flatten ((l.take g.1).map DMsg.ds).flatten) (7 :: [4, 8, 9, 10, 11, 12, 13, 14, 15, 16, 17, 18, 19, 20, 21]) (fun g => [(3, .one (.own 7)), (4, vI .i64 (g.1 : Int))]) (fun g => [(9997, cN S.w0.heap.size g.2.1), (7, .row 222 3 (g.2.2 ++ List.replicate (l.length - g.1) [dI 0, dI 0, .sl []]))]) (fun g => l.length - g.1) (0, S.w0.heap.size, []) ⟨Nat.zero_le _, rfl, Nat.le_refl _, Fam.blank rfl⟩ ?_ (ai.cons rfl (ai.cons rfl ai.nil)) (fun g hR => ?_) <;> (conv => whnf)
  · exact whd
  · obtain ⟨k, m, cs⟩ := g
    obtain ⟨hk, hcs, hm, hF⟩ := hR
    simp only at hk hcs hm hF
    repeat' (first | (refine aw0 ?_) | (refine awx ?_; conv => whnf) | fail | (refine AIx.mapF ari (fun hlt => ?_); conv => whnf) | (refine aa.fresh (GL _ (hs.2 _ (List.getElem_mem hlt))) rfl rfl fun R lo hi a1 a2 F => ?_; conv => whnf) | (refine AIx.at k _ rfl (EY _ hcs ari) ?_; conv => whnf) | (refine AW.i64 ari ari ?_; conv => whnf) | (exact rr) | (refine And.intro rfl ?_; conv => whnf) | (refine AB.mk (fun h => ?_) (fun h => ?_) <;> (conv => whnf)))
    · have a1 : m ≤ lo := a1
      refine aF.mk ⟨(k + 1, hi, cs ++ [dt R 0 (DMsg.ds l[k])]), ⟨by simp only; omega, by simp [hcs], by simp only; omega, ?_⟩, by simp only; omega, ?_, ai.cons rfl (ai.cons (congrArg some (congrArg (AO.row 222 3) (Ca _ hcs (by omega)))) ai.nil)⟩
      · simp only
        rw [cu DMsg.ds (by omega)]
        exact hF.flat_set F (by omega) (by omega) (by omega)
      · exact hds
    · have : k = l.length := ari
      subst this
      refine ⟨_, m, l.map DMsg.ds, Nat.le_refl _, ?_, by simp [hcs], (fun y hy => by obtain ⟨a, _, rfl⟩ := List.mem_map.1 hy; rfl), rfl⟩
      simp only [Nat.sub_self, List.replicate_zero, List.append_nil]
      rw [List.take_length] at hF
      exact hF
theorem FF (x : DLink) : ak av 167 [.agg x.ds] (.val (.agg x.ds)) := by
  refine ac ah Tryz.func167 rfl Tryz.call167 Tryz.ntmps167 (congrArg Array.toList Tryz.results167) fun S => ?_; conv => whnf
  repeat' (first | (refine aw0 ?_) | (refine awx ?_; conv => whnf) | (exact rr) | (refine And.intro rfl ?_; conv => whnf) | (refine AB.mk (fun h => ?_) (fun h => ?_) <;> (conv => whnf)))
  all_goals rfl
theorem Eg (l : (List DLink)) (hs : l.length ≤ 1048576) : bk av 92 [.one (.sl (l.map DLink.ds))] (.one (.sl (l.map DLink.ds))) := by
  have hl : l.length ≤ 1048576 := hs
  refine bj ah Tryz.func92 rfl Tryz.call92 Tryz.ntmps92 (congrArg Array.toList Tryz.results92) fun S => ?_; conv => whnf
  repeat' (first | (refine aw0 ?_) | (refine awx ?_; conv => whnf) | fail | (refine ⟨l.length, by simp, by simp, (show 16 * l.length ≤ _ by omega), by omega, ?_⟩; conv => whnf) | (exact rr) | (refine And.intro rfl ?_; conv => whnf) | (refine AB.mk (fun h => ?_) (fun h => ?_) <;> (conv => whnf)))
  refine AWP.loopS (fun k : Nat => k ≤ l.length) (7 :: [4, 8, 9, 10, 11, 12, 13, 14, 15, 16, 17, 18, 19, 20, 21]) (fun k => [(3, .one (.own 7)), (4, vI .i64 (k : Int))]) (fun k => [(9997, cN S.w0.heap.size S.w0.heap.size), (7, .row 224 2 (cpG DLink.ds [dI 0, dI 0] l k))]) (fun k => l.length - k) 0 (by omega) ?_ (ai.cons rfl (ai.cons (congrArg some (congrArg (AO.row 224 2) (ez DLink.ds [dI 0, dI 0] l).symm)) ai.nil)) (fun k hR => ?_) <;> (conv => whnf)
  · exact whd
  · repeat' (first | (refine aw0 ?_) | (refine awx ?_; conv => whnf) | fail | (refine AIx.mapF ari (fun hlt => ?_); conv => whnf) | (refine aa.pure (FF _) rfl ?_; conv => whnf) | (refine AIx.at k _ rfl (dd DLink.ds [dI 0, dI 0] l k hlt) ?_; conv => whnf) | (refine AIx.at k _ rfl (dd DLink.ds [dI 0, dI 0] l k ari) ?_; conv => whnf) | (refine AW.i64 ari ari ?_; conv => whnf) | (exact rr) | (refine And.intro rfl ?_; conv => whnf) | (refine AB.mk (fun h => ?_) (fun h => ?_) <;> (conv => whnf)))
    · refine aF.mk ⟨k + 1, hlt, by omega, ?_, ai.cons rfl (ai.cons (congrArg some (congrArg (AO.row 224 2) (fL DLink.ds [dI 0, dI 0] l k hlt))) ai.nil)⟩
      exact hds
    · have : k = l.length := ari
      subst this
      exact ⟨_, _, l.map DLink.ds, Nat.le_refl _, by rw [cm]; exact Fam.blank (lo := S.w0.heap.size) (hi := S.w0.heap.size) (by simp [AD.isBl, DLink.ds]), by rw [cm], (fun y hy => by obtain ⟨a, _, rfl⟩ := List.mem_map.1 hy; rfl), rfl⟩
theorem GM (x : DNet) (hs : DNet.small 1048576 x) : bk av 27 [.agg x.ds] (.agg x.ds) := by
  refine bj ah Tryz.func27 rfl Tryz.call27 Tryz.ntmps27 (congrArg Array.toList Tryz.results27) fun S => ?_; conv => whnf
  repeat' (first | (refine aw0 ?_) | (refine awx ?_; conv => whnf) | (refine aa.fresh (FH x.flight ⟨hs.1, hs.2.1⟩) rfl rfl fun R1 l1 h1 a1 b1 F1 => ?_; conv => whnf) | (refine aa.fresh (Eg x.cuts hs.2.2) rfl rfl fun R2 l2 h2 a2 b2 F2 => ?_; conv => whnf) | (exact rr) | (refine And.intro rfl ?_; conv => whnf) | (refine AB.mk (fun h => ?_) (fun h => ?_) <;> (conv => whnf)))
  exact ⟨_, _, _, (by omega : S.w0.heap.size ≤ l1), (Fam.app F1 F2 (by omega) (by omega) (by omega)), rfl⟩
theorem Ed (l : (List Bool)) (hs : l.length ≤ 1048576) : bk av 29 [.one (.sl (l.map eB))] (.one (.sl (l.map eB))) := by
  have hl : l.length ≤ 1048576 := hs
  refine bj ah Tryz.func29 rfl Tryz.call29 Tryz.ntmps29 (congrArg Array.toList Tryz.results29) fun S => ?_; conv => whnf
  repeat' (first | (refine aw0 ?_) | (refine awx ?_; conv => whnf) | fail | (refine ⟨l.length, by simp, by simp, (show 1 * l.length ≤ _ by omega), by omega, ?_⟩; conv => whnf) | (exact rr) | (refine And.intro rfl ?_; conv => whnf) | (refine AB.mk (fun h => ?_) (fun h => ?_) <;> (conv => whnf)))
  refine AWP.loopS (fun k : Nat => k ≤ l.length) (7 :: [4, 8, 9, 10, 11, 12, 13, 14, 15, 16, 17, 18, 19, 20]) (fun k => [(3, .one (.own 7)), (4, vI .i64 (k : Int))]) (fun k => [(9997, cN S.w0.heap.size S.w0.heap.size), (7, .row 4 1 (cpG eB [dB false] l k))]) (fun k => l.length - k) 0 (by omega) ?_ (ai.cons rfl (ai.cons (congrArg some (congrArg (AO.row 4 1) (ez eB [dB false] l).symm)) ai.nil)) (fun k hR => ?_) <;> (conv => whnf)
  · exact whd
  · repeat' (first | (refine aw0 ?_) | (refine awx ?_; conv => whnf) | fail | (refine AIx.mapF ari (fun hlt => ?_); conv => whnf) | (refine AIx.at k _ rfl (dd eB [dB false] l k hlt) ?_; conv => whnf) | (refine AIx.at k _ rfl (dd eB [dB false] l k ari) ?_; conv => whnf) | (refine AW.i64 ari ari ?_; conv => whnf) | (exact rr) | (refine And.intro rfl ?_; conv => whnf) | (refine AB.mk (fun h => ?_) (fun h => ?_) <;> (conv => whnf)))
    · refine aF.mk ⟨k + 1, hlt, by omega, ?_, ai.cons rfl (ai.cons (congrArg some (congrArg (AO.row 4 1) (fL eB [dB false] l k hlt))) ai.nil)⟩
      exact hds
    · have : k = l.length := ari
      subst this
      exact ⟨_, _, l.map eB, Nat.le_refl _, by rw [cm]; exact Fam.blank (lo := S.w0.heap.size) (hi := S.w0.heap.size) (by simp [AD.isBl, eB]), by rw [cm], (fun y hy => by obtain ⟨a, _, rfl⟩ := List.mem_map.1 hy; rfl), rfl⟩
theorem rN (x : DWorld) (hs : DWorld.small 1048576 x) : bk av 7 [.agg x.ds] (.agg x.ds) := by
  refine bj ah Tryz.func7 rfl Tryz.call7 Tryz.ntmps7 (congrArg Array.toList Tryz.results7) fun S => ?_; conv => whnf
  repeat' (first | (refine aw0 ?_) | (refine awx ?_; conv => whnf) | (refine aa.fresh (Bi x.log hs.1) rfl rfl fun R1 l1 h1 a1 b1 F1 => ?_; conv => whnf) | (refine aa.fresh (Ej x.store hs.2.1) rfl rfl fun R2 l2 h2 a2 b2 F2 => ?_; conv => whnf) | (refine aa.fresh (xF x.left hs.2.2.1) rfl rfl fun R3 l3 h3 a3 b3 F3 => ?_; conv => whnf) | (refine aa.fresh (xF x.right hs.2.2.2.1) rfl rfl fun R4 l4 h4 a4 b4 F4 => ?_; conv => whnf) | (refine aa.fresh (vO x.ann hs.2.2.2.2.1) rfl rfl fun R5 l5 h5 a5 b5 F5 => ?_; conv => whnf) | (refine aa.fresh (vO x.bob hs.2.2.2.2.2.1) rfl rfl fun R6 l6 h6 a6 b6 F6 => ?_; conv => whnf) | (refine aa.fresh (GM x.net hs.2.2.2.2.2.2.1) rfl rfl fun R7 l7 h7 a7 b7 F7 => ?_; conv => whnf) | (refine aa.fresh (lz x.clocks hs.2.2.2.2.2.2.2.1) rfl rfl fun R8 l8 h8 a8 b8 F8 => ?_; conv => whnf) | (refine aa.fresh (Ed x.up hs.2.2.2.2.2.2.2.2) rfl rfl fun R9 l9 h9 a9 b9 F9 => ?_; conv => whnf) | (exact rr) | (refine And.intro rfl ?_; conv => whnf) | (refine AB.mk (fun h => ?_) (fun h => ?_) <;> (conv => whnf)))
  exact ⟨_, _, _, (by omega : S.w0.heap.size ≤ l1), (Fam.app (Fam.app (Fam.app (Fam.app (Fam.app (Fam.app (Fam.app (Fam.app F1 F2 (by omega) (by omega) (by omega)) F3 (by omega) (by omega) (by omega)) F4 (by omega) (by omega) (by omega)) F5 (by omega) (by omega) (by omega)) F6 (by omega) (by omega) (by omega)) F7 (by omega) (by omega) (by omega)) F8 (by omega) (by omega) (by omega)) F9 (by omega) (by omega) (by omega)), rfl⟩
theorem fF (x : DWorld) (hs : DWorld.small 1048576 x) : ak av 7 [.agg x.ds] (.val (.agg x.ds)) := (rN x hs).pcall
end Go.Proofs.YtcmknngafflcnaaGreat
namespace Go.Proofs.YtcmknngafflcnaaGreat
open Go.ChangeShapes Go.WideShapes Go.RowKit
def kH : List (List Nat) := bA [0, 0, 66, 12417, 0, 0, 326, 29061, 17663105454471]
def kS : List (List Nat) := bQ 8 [6486, 6482, 6484, 6493, 566, 242, 404, 1133]
def jI : List (List Nat) := bA [0, 0, 66, 12417, 0, 0, 326, 29061, 17663105454471, 2564478936555588]
def jR : List (List Nat) := bQ 8 [6486, 6482, 6484, 6493, 566, 242, 404, 1133]
def kI : List (List Nat) := bA [0, 0, 66, 12417, 0, 0, 326, 29061, 17663105454471, 2564478936555588]
def kT : List (List Nat) := bQ 8 [6486, 6482, 6484, 6493, 566, 242, 404, 1133]
def mn : List (List Nat) := bA [0, 0, 66, 12417, 0, 0, 326, 29061, 17663105454471, 2564478936555588]
def mL : List (List Nat) := bQ 8 [6486, 6482, 6484, 6493, 566, 242, 404, 1133]
def kG : List (List Nat) := bA [0, 0, 66, 12417, 0, 0, 326, 29061, 17663105454471, 2564478936555588]
def kR : List (List Nat) := bQ 8 [6486, 6482, 6484, 6493, 566, 242, 404, 1133]
def ns : List (List Nat) := bA [0, 0, 66, 12417, 0, 0, 326, 29061, 17663105454471, 2564478936555588]
def nJ : List (List Nat) := bQ 8 [6486, 6482, 6484, 6493, 566, 242, 404, 1133]
def mo : List (List Nat) := bA [0, 0, 66, 12417, 0, 0, 326, 29061, 17663105454471, 2564478936555588]
def mM : List (List Nat) := bQ 8 [6486, 6482, 6484, 6493, 566, 242, 404, 1133]
def nw : List (List Nat) := bA [0, 0, 66, 12417, 0, 0, 326, 29061, 17663105454471, 2564478936555588]
def nM : List (List Nat) := bQ 8 [6486, 6482, 6484, 6493, 566, 242, 404, 1133]
def nt : List (List Nat) := bA [0, 0, 66, 12417, 0, 0, 326, 29061, 17663105454471, 2564478936555588]
def nK : List (List Nat) := bQ 8 [6486, 6482, 6484, 6493, 566, 242, 404, 1133]
def mp : List (List Nat) := bA [0, 0, 66, 12417, 0, 0, 326, 29061, 17663105454471, 2564478936555588]
def mN : List (List Nat) := bQ 8 [6486, 6482, 6484, 6493, 566, 242, 404, 1133]
def nv : List (List Nat) := bA [0, 0, 66, 12417, 0, 0, 326, 29061, 17663105454471, 2564478936555588]
def nL : List (List Nat) := bQ 8 [6486, 6482, 6484, 6493, 566, 242, 404, 1133]
def nx : List (List Nat) := bA [0, 0, 66, 12417, 0, 0, 326, 29061, 17663105454471, 2564478936555588]
def nN : List (List Nat) := bQ 8 [6486, 6482, 6484, 6493, 566, 242, 404, 1133]
def mm : List (List Nat) := bA [0, 0, 66, 12417, 0, 0, 326, 29061, 17663105454471, 2564478936555588]
def mK : List (List Nat) := bQ 8 [6486, 6482, 6484, 6493, 566, 242, 404, 1133]
def ml : List (List Nat) := bA [0, 0, 66, 12417, 0, 0, 326, 29061, 17663105454471]
def mJ : List (List Nat) := bQ 8 [6486, 6482, 6484, 6493, 566, 242, 404, 1133]
theorem neI (x : Int) : (x != x) = false := by simp
theorem neB (x : Bool) : (!(x == x)) = false := by simp
theorem iG (l : (List Int)) (hs : l.length ≤ 1048576) : ak av 37 [.one (.sl (l.map eI)), .one (.sl (l.map eI))] (rB true) := by
  have hl : l.length ≤ 1048576 := hs
  refine ac ah Tryz.func37 rfl Tryz.call37 Tryz.ntmps37 (congrArg Array.toList Tryz.results37) fun S => ?_; conv => whnf
  have h0 : (((l.map eI).length : Int) != ((l.map eI).length : Int)) = false := neI _
  repeat' (first | (refine aw0 ?_) | (refine awx ?_; conv => whnf) | fail | (exact rr) | (refine And.intro rfl ?_; conv => whnf) | (refine AB.mk (fun h => ?_) (fun h => ?_) <;> (conv => whnf)))
  refine AWP.loopS (fun k : Nat => k ≤ l.length) [4, 5, 11, 12, 13, 14, 15, 16, 17, 18, 19, 20, 21, 22, 23, 24, 25] (fun k => [(5, vI .i64 (k : Int))]) (fun k => []) (fun k => l.length - k) 0 (by omega) ?_ ai.nil (fun k hR => ?_) <;> (conv => whnf)
  · exact whd
  · repeat' (first | (refine aw0 ?_) | (refine awx ?_; conv => whnf) | fail | (exact rr) | (refine And.intro rfl ?_; conv => whnf) | (refine AB.mk (fun h => ?_) (fun h => ?_) <;> (conv => whnf)))
    · have hlt : k < l.length := ari
      have hne : (l[k] != l[k]) = false := neI _
      (refine AWP.drawK ah 6 8 kH kS (by kernel_rfl) (by kernel_rfl) (by kernel_rfl) rfl ?_; conv => whnf)
      repeat' (first | (refine aw0 ?_) | (refine awx ?_; conv => whnf) | fail | (refine AIx.map hlt ?_; conv => whnf) | (refine AW.i64 ari ari ?_; conv => whnf) | (exact rr) | (refine And.intro rfl ?_; conv => whnf) | (refine AB.mk (fun h => ?_) (fun h => ?_) <;> (conv => whnf)))
      refine aF.mk ⟨k + 1, hlt, by omega, ?_, ai.nil⟩
      exact hds
theorem zA (l : (List (List Int))) (hs : l.length ≤ 1048576 ∧ ∀ y ∈ l, y.length ≤ 1048576) : ak av 183 [.one (.sl (l.map cG)), .one (.sl (l.map cG))] (rB true) := by
  have hl : l.length ≤ 1048576 := hs.1
  refine ac ah Tryz.func183 rfl Tryz.call183 Tryz.ntmps183 (congrArg Array.toList Tryz.results183) fun S => ?_; conv => whnf
  have h0 : (((l.map cG).length : Int) != ((l.map cG).length : Int)) = false := neI _
  repeat' (first | (refine aw0 ?_) | (refine awx ?_; conv => whnf) | fail | (exact rr) | (refine And.intro rfl ?_; conv => whnf) | (refine AB.mk (fun h => ?_) (fun h => ?_) <;> (conv => whnf)))
  refine AWP.loopS (fun k : Nat => k ≤ l.length) [4, 5, 11, 12, 13, 14, 15, 16, 17, 18, 19, 20, 21, 22, 23, 24, 25, 26] (fun k => [(5, vI .i64 (k : Int))]) (fun k => []) (fun k => l.length - k) 0 (by omega) ?_ ai.nil (fun k hR => ?_) <;> (conv => whnf)
  · exact whd
  · repeat' (first | (refine aw0 ?_) | (refine awx ?_; conv => whnf) | fail | (exact rr) | (refine And.intro rfl ?_; conv => whnf) | (refine AB.mk (fun h => ?_) (fun h => ?_) <;> (conv => whnf)))
    · have hlt : k < l.length := ari
      (refine AWP.drawK ah 6 8 jI jR (by kernel_rfl) (by kernel_rfl) (by kernel_rfl) rfl ?_; conv => whnf)
      repeat' (first | (refine aw0 ?_) | (refine awx ?_; conv => whnf) | fail | (refine AIx.map hlt ?_; conv => whnf) | (refine aa.pure (iG _ (hs.2 _ (List.getElem_mem hlt))) rfl ?_; conv => whnf) | (refine ae.mk ⟨_, _, iG _ (hs.2 _ (List.getElem_mem hlt)), .inl rfl, ?_⟩; conv => whnf) | (refine AW.i64 ari ari ?_; conv => whnf) | (exact rr) | (refine And.intro rfl ?_; conv => whnf) | (refine AB.mk (fun h => ?_) (fun h => ?_) <;> (conv => whnf)))
      refine aF.mk ⟨k + 1, hlt, by omega, ?_, ai.nil⟩
      exact hds
theorem wK (x : DWrite) (hs : DWrite.small 1048576 x) : ak av 258 [.agg x.ds, .agg x.ds] (rB true) := by
  refine ac ah Tryz.func258 rfl Tryz.call258 Tryz.ntmps258 (congrArg Array.toList Tryz.results258) fun S => ?_; conv => whnf
  have h1 := neI x.at_
  repeat' (first | (refine aw0 ?_) | (refine awx ?_; conv => whnf) | (refine aa.pure (iG x.row hs) rfl ?_; conv => whnf) | fail | (exact rr) | (refine And.intro rfl ?_; conv => whnf) | (refine AB.mk (fun h => ?_) (fun h => ?_) <;> (conv => whnf)))
theorem B9 (l : (List DWrite)) (hs : l.length ≤ 1048576 ∧ ∀ y ∈ l, DWrite.small 1048576 y) : ak av 184 [.one (.sl (l.map DWrite.ds)), .one (.sl (l.map DWrite.ds))] (rB true) := by
  have hl : l.length ≤ 1048576 := hs.1
  refine ac ah Tryz.func184 rfl Tryz.call184 Tryz.ntmps184 (congrArg Array.toList Tryz.results184) fun S => ?_; conv => whnf
  have h0 : (((l.map DWrite.ds).length : Int) != ((l.map DWrite.ds).length : Int)) = false := neI _
  repeat' (first | (refine aw0 ?_) | (refine awx ?_; conv => whnf) | fail | (exact rr) | (refine And.intro rfl ?_; conv => whnf) | (refine AB.mk (fun h => ?_) (fun h => ?_) <;> (conv => whnf)))
  refine AWP.loopS (fun k : Nat => k ≤ l.length) [4, 5, 11, 12, 13, 14, 15, 16, 17, 18, 19, 20, 21, 22, 23, 24, 25, 26] (fun k => [(5, vI .i64 (k : Int))]) (fun k => []) (fun k => l.length - k) 0 (by omega) ?_ ai.nil (fun k hR => ?_) <;> (conv => whnf)
  · exact whd
  · repeat' (first | (refine aw0 ?_) | (refine awx ?_; conv => whnf) | fail | (exact rr) | (refine And.intro rfl ?_; conv => whnf) | (refine AB.mk (fun h => ?_) (fun h => ?_) <;> (conv => whnf)))
    · have hlt : k < l.length := ari
      (refine AWP.drawK ah 6 8 kI kT (by kernel_rfl) (by kernel_rfl) (by kernel_rfl) rfl ?_; conv => whnf)
      repeat' (first | (refine aw0 ?_) | (refine awx ?_; conv => whnf) | fail | (refine AIx.map hlt ?_; conv => whnf) | (refine aa.pure (wK _ (hs.2 _ (List.getElem_mem hlt))) rfl ?_; conv => whnf) | (refine ae.mk ⟨_, _, wK _ (hs.2 _ (List.getElem_mem hlt)), .inl rfl, ?_⟩; conv => whnf) | (refine AW.i64 ari ari ?_; conv => whnf) | (exact rr) | (refine And.intro rfl ?_; conv => whnf) | (refine AB.mk (fun h => ?_) (fun h => ?_) <;> (conv => whnf)))
      refine aF.mk ⟨k + 1, hlt, by omega, ?_, ai.nil⟩
      exact hds
theorem t9 (x : DDisk) (hs : DDisk.small 1048576 x) : ak av 100 [.agg x.ds, .agg x.ds] (rB true) := by
  refine ac ah Tryz.func100 rfl Tryz.call100 Tryz.ntmps100 (congrArg Array.toList Tryz.results100) fun S => ?_; conv => whnf
  repeat' (first | (refine aw0 ?_) | (refine awx ?_; conv => whnf) | (refine aa.pure (zA x.kept ⟨hs.1, hs.2.1⟩) rfl ?_; conv => whnf) | (refine aa.pure (B9 x.wait ⟨hs.2.2.1, hs.2.2.2⟩) rfl ?_; conv => whnf) | fail | (exact rr) | (refine And.intro rfl ?_; conv => whnf) | (refine AB.mk (fun h => ?_) (fun h => ?_) <;> (conv => whnf)))
theorem Ga (x : DTwo) (hs : DTwo.small 1048576 x) : ak av 95 [.agg x.ds, .agg x.ds] (rB true) := by
  refine ac ah Tryz.func95 rfl Tryz.call95 Tryz.ntmps95 (congrArg Array.toList Tryz.results95) fun S => ?_; conv => whnf
  repeat' (first | (refine aw0 ?_) | (refine awx ?_; conv => whnf) | (refine aa.pure (t9 x.a hs.1) rfl ?_; conv => whnf) | (refine aa.pure (t9 x.b hs.2) rfl ?_; conv => whnf) | fail | (exact rr) | (refine And.intro rfl ?_; conv => whnf) | (refine AB.mk (fun h => ?_) (fun h => ?_) <;> (conv => whnf)))
theorem zD (x : DMark) : ak av 181 [.agg x.ds, .agg x.ds] (rB true) := by
  refine ac ah Tryz.func181 rfl Tryz.call181 Tryz.ntmps181 (congrArg Array.toList Tryz.results181) fun S => ?_; conv => whnf
  have h1 := neI x.client
  have h2 := neI x.seq
  have h3 := neI x.index
  repeat' (first | (refine aw0 ?_) | (refine awx ?_; conv => whnf) | fail | (exact rr) | (refine And.intro rfl ?_; conv => whnf) | (refine AB.mk (fun h => ?_) (fun h => ?_) <;> (conv => whnf)))
theorem wH (l : (List DMark)) (hs : l.length ≤ 1048576) : ak av 98 [.one (.sl (l.map DMark.ds)), .one (.sl (l.map DMark.ds))] (rB true) := by
  have hl : l.length ≤ 1048576 := hs
  refine ac ah Tryz.func98 rfl Tryz.call98 Tryz.ntmps98 (congrArg Array.toList Tryz.results98) fun S => ?_; conv => whnf
  have h0 : (((l.map DMark.ds).length : Int) != ((l.map DMark.ds).length : Int)) = false := neI _
  repeat' (first | (refine aw0 ?_) | (refine awx ?_; conv => whnf) | fail | (exact rr) | (refine And.intro rfl ?_; conv => whnf) | (refine AB.mk (fun h => ?_) (fun h => ?_) <;> (conv => whnf)))
  refine AWP.loopS (fun k : Nat => k ≤ l.length) [4, 5, 11, 12, 13, 14, 15, 16, 17, 18, 19, 20, 21, 22, 23, 24, 25, 26] (fun k => [(5, vI .i64 (k : Int))]) (fun k => []) (fun k => l.length - k) 0 (by omega) ?_ ai.nil (fun k hR => ?_) <;> (conv => whnf)
  · exact whd
  · repeat' (first | (refine aw0 ?_) | (refine awx ?_; conv => whnf) | fail | (exact rr) | (refine And.intro rfl ?_; conv => whnf) | (refine AB.mk (fun h => ?_) (fun h => ?_) <;> (conv => whnf)))
    · have hlt : k < l.length := ari
      (refine AWP.drawK ah 6 8 mn mL (by kernel_rfl) (by kernel_rfl) (by kernel_rfl) rfl ?_; conv => whnf)
      repeat' (first | (refine aw0 ?_) | (refine awx ?_; conv => whnf) | fail | (refine AIx.map hlt ?_; conv => whnf) | (refine aa.pure (zD _ ) rfl ?_; conv => whnf) | (refine ae.mk ⟨_, _, zD _ , .inl rfl, ?_⟩; conv => whnf) | (refine AW.i64 ari ari ?_; conv => whnf) | (exact rr) | (refine And.intro rfl ?_; conv => whnf) | (refine AB.mk (fun h => ?_) (fun h => ?_) <;> (conv => whnf)))
      refine aF.mk ⟨k + 1, hlt, by omega, ?_, ai.nil⟩
      exact hds
theorem zz (x : DHead) (hs : DHead.small 1048576 x) : ak av 96 [.agg x.ds, .agg x.ds] (rB true) := by
  refine ac ah Tryz.func96 rfl Tryz.call96 Tryz.ntmps96 (congrArg Array.toList Tryz.results96) fun S => ?_; conv => whnf
  have h1 := neI x.num
  have h2 := neI x.base
  have h3 := neI x.time
  repeat' (first | (refine aw0 ?_) | (refine awx ?_; conv => whnf) | (refine aa.pure (wH x.seen hs) rfl ?_; conv => whnf) | fail | (exact rr) | (refine And.intro rfl ?_; conv => whnf) | (refine AB.mk (fun h => ?_) (fun h => ?_) <;> (conv => whnf)))
theorem B8 (x : DOp) : ak av 103 [.agg x.ds, .agg x.ds] (rB true) := by
  refine ac ah Tryz.func103 rfl Tryz.call103 Tryz.ntmps103 (congrArg Array.toList Tryz.results103) fun S => ?_; conv => whnf
  have h1 := neI x.kind
  have h2 := neI x.a
  have h3 := neI x.b
  have h4 := neI x.c
  have h5 := neI x.d
  repeat' (first | (refine aw0 ?_) | (refine awx ?_; conv => whnf) | fail | (exact rr) | (refine And.intro rfl ?_; conv => whnf) | (refine AB.mk (fun h => ?_) (fun h => ?_) <;> (conv => whnf)))
theorem wG (x : DEntry) : ak av 257 [.agg x.ds, .agg x.ds] (rB true) := by
  refine ac ah Tryz.func257 rfl Tryz.call257 Tryz.ntmps257 (congrArg Array.toList Tryz.results257) fun S => ?_; conv => whnf
  have h1 := neI x.index
  have h2 := neI x.time
  have h3 := neI x.client
  have h4 := neI x.seq
  repeat' (first | (refine aw0 ?_) | (refine awx ?_; conv => whnf) | (refine aa.pure (B8 x.op ) rfl ?_; conv => whnf) | fail | (exact rr) | (refine And.intro rfl ?_; conv => whnf) | (refine AB.mk (fun h => ?_) (fun h => ?_) <;> (conv => whnf)))
theorem B7 (l : (List DEntry)) (hs : l.length ≤ 1048576) : ak av 180 [.one (.sl (l.map DEntry.ds)), .one (.sl (l.map DEntry.ds))] (rB true) := by
  have hl : l.length ≤ 1048576 := hs
  refine ac ah Tryz.func180 rfl Tryz.call180 Tryz.ntmps180 (congrArg Array.toList Tryz.results180) fun S => ?_; conv => whnf
  have h0 : (((l.map DEntry.ds).length : Int) != ((l.map DEntry.ds).length : Int)) = false := neI _
  repeat' (first | (refine aw0 ?_) | (refine awx ?_; conv => whnf) | fail | (exact rr) | (refine And.intro rfl ?_; conv => whnf) | (refine AB.mk (fun h => ?_) (fun h => ?_) <;> (conv => whnf)))
  refine AWP.loopS (fun k : Nat => k ≤ l.length) [4, 5, 11, 12, 13, 14, 15, 16, 17, 18, 19, 20, 21, 22, 23, 24, 25, 26] (fun k => [(5, vI .i64 (k : Int))]) (fun k => []) (fun k => l.length - k) 0 (by omega) ?_ ai.nil (fun k hR => ?_) <;> (conv => whnf)
  · exact whd
  · repeat' (first | (refine aw0 ?_) | (refine awx ?_; conv => whnf) | fail | (exact rr) | (refine And.intro rfl ?_; conv => whnf) | (refine AB.mk (fun h => ?_) (fun h => ?_) <;> (conv => whnf)))
    · have hlt : k < l.length := ari
      (refine AWP.drawK ah 6 8 kG kR (by kernel_rfl) (by kernel_rfl) (by kernel_rfl) rfl ?_; conv => whnf)
      repeat' (first | (refine aw0 ?_) | (refine awx ?_; conv => whnf) | fail | (refine AIx.map hlt ?_; conv => whnf) | (refine aa.pure (wG _ ) rfl ?_; conv => whnf) | (refine ae.mk ⟨_, _, wG _ , .inl rfl, ?_⟩; conv => whnf) | (refine AW.i64 ari ari ?_; conv => whnf) | (exact rr) | (refine And.intro rfl ?_; conv => whnf) | (refine AB.mk (fun h => ?_) (fun h => ?_) <;> (conv => whnf)))
      refine aF.mk ⟨k + 1, hlt, by omega, ?_, ai.nil⟩
      exact hds
theorem EM (x : DBook) (hs : DBook.small 1048576 x) : ak av 97 [.agg x.ds, .agg x.ds] (rB true) := by
  refine ac ah Tryz.func97 rfl Tryz.call97 Tryz.ntmps97 (congrArg Array.toList Tryz.results97) fun S => ?_; conv => whnf
  have h1 := neI x.base
  have h2 := neI x.time
  repeat' (first | (refine aw0 ?_) | (refine awx ?_; conv => whnf) | (refine aa.pure (B7 x.entries hs) rfl ?_; conv => whnf) | fail | (exact rr) | (refine And.intro rfl ?_; conv => whnf) | (refine AB.mk (fun h => ?_) (fun h => ?_) <;> (conv => whnf)))
theorem CT (x : DAck) : ak av 182 [.agg x.ds, .agg x.ds] (rB true) := by
  refine ac ah Tryz.func182 rfl Tryz.call182 Tryz.ntmps182 (congrArg Array.toList Tryz.results182) fun S => ?_; conv => whnf
  have h1 := neI x.client
  have h2 := neI x.seq
  have h3 := neI x.index
  have h4 := neI x.last
  repeat' (first | (refine aw0 ?_) | (refine awx ?_; conv => whnf) | fail | (exact rr) | (refine And.intro rfl ?_; conv => whnf) | (refine AB.mk (fun h => ?_) (fun h => ?_) <;> (conv => whnf)))
theorem EL (l : (List DAck)) (hs : l.length ≤ 1048576) : ak av 99 [.one (.sl (l.map DAck.ds)), .one (.sl (l.map DAck.ds))] (rB true) := by
  have hl : l.length ≤ 1048576 := hs
  refine ac ah Tryz.func99 rfl Tryz.call99 Tryz.ntmps99 (congrArg Array.toList Tryz.results99) fun S => ?_; conv => whnf
  have h0 : (((l.map DAck.ds).length : Int) != ((l.map DAck.ds).length : Int)) = false := neI _
  repeat' (first | (refine aw0 ?_) | (refine awx ?_; conv => whnf) | fail | (exact rr) | (refine And.intro rfl ?_; conv => whnf) | (refine AB.mk (fun h => ?_) (fun h => ?_) <;> (conv => whnf)))
  refine AWP.loopS (fun k : Nat => k ≤ l.length) [4, 5, 11, 12, 13, 14, 15, 16, 17, 18, 19, 20, 21, 22, 23, 24, 25, 26] (fun k => [(5, vI .i64 (k : Int))]) (fun k => []) (fun k => l.length - k) 0 (by omega) ?_ ai.nil (fun k hR => ?_) <;> (conv => whnf)
  · exact whd
  · repeat' (first | (refine aw0 ?_) | (refine awx ?_; conv => whnf) | fail | (exact rr) | (refine And.intro rfl ?_; conv => whnf) | (refine AB.mk (fun h => ?_) (fun h => ?_) <;> (conv => whnf)))
    · have hlt : k < l.length := ari
      (refine AWP.drawK ah 6 8 ns nJ (by kernel_rfl) (by kernel_rfl) (by kernel_rfl) rfl ?_; conv => whnf)
      repeat' (first | (refine aw0 ?_) | (refine awx ?_; conv => whnf) | fail | (refine AIx.map hlt ?_; conv => whnf) | (refine aa.pure (CT _ ) rfl ?_; conv => whnf) | (refine ae.mk ⟨_, _, CT _ , .inl rfl, ?_⟩; conv => whnf) | (refine AW.i64 ari ari ?_; conv => whnf) | (exact rr) | (refine And.intro rfl ?_; conv => whnf) | (refine AB.mk (fun h => ?_) (fun h => ?_) <;> (conv => whnf)))
      refine aF.mk ⟨k + 1, hlt, by omega, ?_, ai.nil⟩
      exact hds
theorem zC (x : DLogNode) (hs : DLogNode.small 1048576 x) : ak av 32 [.agg x.ds, .agg x.ds] (rB true) := by
  refine ac ah Tryz.func32 rfl Tryz.call32 Tryz.ntmps32 (congrArg Array.toList Tryz.results32) fun S => ?_; conv => whnf
  have h4 : (!(x.more == x.more)) = false := neB _
  have h7 := neI x.durable
  repeat' (first | (refine aw0 ?_) | (refine awx ?_; conv => whnf) | (refine aa.pure (Ga x.two hs.1) rfl ?_; conv => whnf) | (refine aa.pure (zz x.head hs.2.1) rfl ?_; conv => whnf) | (refine aa.pure (zz x.nxt hs.2.2.1) rfl ?_; conv => whnf) | (refine aa.pure (EM x.book hs.2.2.2.1) rfl ?_; conv => whnf) | (refine aa.pure (wH x.seen hs.2.2.2.2.1) rfl ?_; conv => whnf) | (refine aa.pure (EL x.owe hs.2.2.2.2.2) rfl ?_; conv => whnf) | fail | (exact rr) | (refine And.intro rfl ?_; conv => whnf) | (refine AB.mk (fun h => ?_) (fun h => ?_) <;> (conv => whnf)))
theorem zE (x : DPair) : ak av 259 [.agg x.ds, .agg x.ds] (rB true) := by
  refine ac ah Tryz.func259 rfl Tryz.call259 Tryz.ntmps259 (congrArg Array.toList Tryz.results259) fun S => ?_; conv => whnf
  have h1 := neI x.key
  have h2 := neI x.value
  repeat' (first | (refine aw0 ?_) | (refine awx ?_; conv => whnf) | fail | (exact rr) | (refine And.intro rfl ?_; conv => whnf) | (refine AB.mk (fun h => ?_) (fun h => ?_) <;> (conv => whnf)))
theorem DH (l : (List DPair)) (hs : l.length ≤ 1048576) : ak av 185 [.one (.sl (l.map DPair.ds)), .one (.sl (l.map DPair.ds))] (rB true) := by
  have hl : l.length ≤ 1048576 := hs
  refine ac ah Tryz.func185 rfl Tryz.call185 Tryz.ntmps185 (congrArg Array.toList Tryz.results185) fun S => ?_; conv => whnf
  have h0 : (((l.map DPair.ds).length : Int) != ((l.map DPair.ds).length : Int)) = false := neI _
  repeat' (first | (refine aw0 ?_) | (refine awx ?_; conv => whnf) | fail | (exact rr) | (refine And.intro rfl ?_; conv => whnf) | (refine AB.mk (fun h => ?_) (fun h => ?_) <;> (conv => whnf)))
  refine AWP.loopS (fun k : Nat => k ≤ l.length) [4, 5, 11, 12, 13, 14, 15, 16, 17, 18, 19, 20, 21, 22, 23, 24, 25, 26] (fun k => [(5, vI .i64 (k : Int))]) (fun k => []) (fun k => l.length - k) 0 (by omega) ?_ ai.nil (fun k hR => ?_) <;> (conv => whnf)
  · exact whd
  · repeat' (first | (refine aw0 ?_) | (refine awx ?_; conv => whnf) | fail | (exact rr) | (refine And.intro rfl ?_; conv => whnf) | (refine AB.mk (fun h => ?_) (fun h => ?_) <;> (conv => whnf)))
    · have hlt : k < l.length := ari
      (refine AWP.drawK ah 6 8 mo mM (by kernel_rfl) (by kernel_rfl) (by kernel_rfl) rfl ?_; conv => whnf)
      repeat' (first | (refine aw0 ?_) | (refine awx ?_; conv => whnf) | fail | (refine AIx.map hlt ?_; conv => whnf) | (refine aa.pure (zE _ ) rfl ?_; conv => whnf) | (refine ae.mk ⟨_, _, zE _ , .inl rfl, ?_⟩; conv => whnf) | (refine AW.i64 ari ari ?_; conv => whnf) | (exact rr) | (refine And.intro rfl ?_; conv => whnf) | (refine AB.mk (fun h => ?_) (fun h => ?_) <;> (conv => whnf)))
      refine aF.mk ⟨k + 1, hlt, by omega, ?_, ai.nil⟩
      exact hds
theorem CW (x : DJob) : ak av 260 [.agg x.ds, .agg x.ds] (rB true) := by
  refine ac ah Tryz.func260 rfl Tryz.call260 Tryz.ntmps260 (congrArg Array.toList Tryz.results260) fun S => ?_; conv => whnf
  have h1 := neI x.id
  have h2 := neI x.due
  have h3 := neI x.key
  have h4 := neI x.value
  have h5 := neI x.fired
  repeat' (first | (refine aw0 ?_) | (refine awx ?_; conv => whnf) | fail | (exact rr) | (refine And.intro rfl ?_; conv => whnf) | (refine AB.mk (fun h => ?_) (fun h => ?_) <;> (conv => whnf)))
theorem EQ (l : (List DJob)) (hs : l.length ≤ 1048576) : ak av 186 [.one (.sl (l.map DJob.ds)), .one (.sl (l.map DJob.ds))] (rB true) := by
  have hl : l.length ≤ 1048576 := hs
  refine ac ah Tryz.func186 rfl Tryz.call186 Tryz.ntmps186 (congrArg Array.toList Tryz.results186) fun S => ?_; conv => whnf
  have h0 : (((l.map DJob.ds).length : Int) != ((l.map DJob.ds).length : Int)) = false := neI _
  repeat' (first | (refine aw0 ?_) | (refine awx ?_; conv => whnf) | fail | (exact rr) | (refine And.intro rfl ?_; conv => whnf) | (refine AB.mk (fun h => ?_) (fun h => ?_) <;> (conv => whnf)))
  refine AWP.loopS (fun k : Nat => k ≤ l.length) [4, 5, 11, 12, 13, 14, 15, 16, 17, 18, 19, 20, 21, 22, 23, 24, 25, 26] (fun k => [(5, vI .i64 (k : Int))]) (fun k => []) (fun k => l.length - k) 0 (by omega) ?_ ai.nil (fun k hR => ?_) <;> (conv => whnf)
  · exact whd
  · repeat' (first | (refine aw0 ?_) | (refine awx ?_; conv => whnf) | fail | (exact rr) | (refine And.intro rfl ?_; conv => whnf) | (refine AB.mk (fun h => ?_) (fun h => ?_) <;> (conv => whnf)))
    · have hlt : k < l.length := ari
      (refine AWP.drawK ah 6 8 nw nM (by kernel_rfl) (by kernel_rfl) (by kernel_rfl) rfl ?_; conv => whnf)
      repeat' (first | (refine aw0 ?_) | (refine awx ?_; conv => whnf) | fail | (refine AIx.map hlt ?_; conv => whnf) | (refine aa.pure (CW _ ) rfl ?_; conv => whnf) | (refine ae.mk ⟨_, _, CW _ , .inl rfl, ?_⟩; conv => whnf) | (refine AW.i64 ari ari ?_; conv => whnf) | (exact rr) | (refine And.intro rfl ?_; conv => whnf) | (refine AB.mk (fun h => ?_) (fun h => ?_) <;> (conv => whnf)))
      refine aF.mk ⟨k + 1, hlt, by omega, ?_, ai.nil⟩
      exact hds
theorem DF (x : DLease) : ak av 187 [.agg x.ds, .agg x.ds] (rB true) := by
  refine ac ah Tryz.func187 rfl Tryz.call187 Tryz.ntmps187 (congrArg Array.toList Tryz.results187) fun S => ?_; conv => whnf
  have h1 := neI x.holder
  have h2 := neI x.epoch
  have h3 := neI x.til
  repeat' (first | (refine aw0 ?_) | (refine awx ?_; conv => whnf) | fail | (exact rr) | (refine And.intro rfl ?_; conv => whnf) | (refine AB.mk (fun h => ?_) (fun h => ?_) <;> (conv => whnf)))
theorem DI (x : DState) (hs : DState.small 1048576 x) : ak av 101 [.agg x.ds, .agg x.ds] (rB true) := by
  refine ac ah Tryz.func101 rfl Tryz.call101 Tryz.ntmps101 (congrArg Array.toList Tryz.results101) fun S => ?_; conv => whnf
  have h1 := neI x.index
  have h2 := neI x.time
  repeat' (first | (refine aw0 ?_) | (refine awx ?_; conv => whnf) | (refine aa.pure (DH x.pairs hs.1) rfl ?_; conv => whnf) | (refine aa.pure (EQ x.jobs hs.2) rfl ?_; conv => whnf) | (refine aa.pure (DF x.lease ) rfl ?_; conv => whnf) | fail | (exact rr) | (refine And.intro rfl ?_; conv => whnf) | (refine AB.mk (fun h => ?_) (fun h => ?_) <;> (conv => whnf)))
theorem DJ (x : DStore) (hs : DStore.small 1048576 x) : ak av 33 [.agg x.ds, .agg x.ds] (rB true) := by
  refine ac ah Tryz.func33 rfl Tryz.call33 Tryz.ntmps33 (congrArg Array.toList Tryz.results33) fun S => ?_; conv => whnf
  have h3 := neI x.num
  have h4 := neI x.last
  have h5 := neI x.busy
  repeat' (first | (refine aw0 ?_) | (refine awx ?_; conv => whnf) | (refine aa.pure (t9 x.disk hs.1) rfl ?_; conv => whnf) | (refine aa.pure (DI x.state hs.2) rfl ?_; conv => whnf) | fail | (exact rr) | (refine And.intro rfl ?_; conv => whnf) | (refine AB.mk (fun h => ?_) (fun h => ?_) <;> (conv => whnf)))
theorem CU (x : DDue) : ak av 310 [.agg x.ds, .agg x.ds] (rB true) := by
  refine ac ah Tryz.func310 rfl Tryz.call310 Tryz.ntmps310 (congrArg Array.toList Tryz.results310) fun S => ?_; conv => whnf
  have h1 := neI x.id
  have h2 := neI x.due
  repeat' (first | (refine aw0 ?_) | (refine awx ?_; conv => whnf) | fail | (exact rr) | (refine And.intro rfl ?_; conv => whnf) | (refine AB.mk (fun h => ?_) (fun h => ?_) <;> (conv => whnf)))
theorem EN (l : (List DDue)) (hs : l.length ≤ 1048576) : ak av 261 [.one (.sl (l.map DDue.ds)), .one (.sl (l.map DDue.ds))] (rB true) := by
  have hl : l.length ≤ 1048576 := hs
  refine ac ah Tryz.func261 rfl Tryz.call261 Tryz.ntmps261 (congrArg Array.toList Tryz.results261) fun S => ?_; conv => whnf
  have h0 : (((l.map DDue.ds).length : Int) != ((l.map DDue.ds).length : Int)) = false := neI _
  repeat' (first | (refine aw0 ?_) | (refine awx ?_; conv => whnf) | fail | (exact rr) | (refine And.intro rfl ?_; conv => whnf) | (refine AB.mk (fun h => ?_) (fun h => ?_) <;> (conv => whnf)))
  refine AWP.loopS (fun k : Nat => k ≤ l.length) [4, 5, 11, 12, 13, 14, 15, 16, 17, 18, 19, 20, 21, 22, 23, 24, 25, 26] (fun k => [(5, vI .i64 (k : Int))]) (fun k => []) (fun k => l.length - k) 0 (by omega) ?_ ai.nil (fun k hR => ?_) <;> (conv => whnf)
  · exact whd
  · repeat' (first | (refine aw0 ?_) | (refine awx ?_; conv => whnf) | fail | (exact rr) | (refine And.intro rfl ?_; conv => whnf) | (refine AB.mk (fun h => ?_) (fun h => ?_) <;> (conv => whnf)))
    · have hlt : k < l.length := ari
      (refine AWP.drawK ah 6 8 nt nK (by kernel_rfl) (by kernel_rfl) (by kernel_rfl) rfl ?_; conv => whnf)
      repeat' (first | (refine aw0 ?_) | (refine awx ?_; conv => whnf) | fail | (refine AIx.map hlt ?_; conv => whnf) | (refine aa.pure (CU _ ) rfl ?_; conv => whnf) | (refine ae.mk ⟨_, _, CU _ , .inl rfl, ?_⟩; conv => whnf) | (refine AW.i64 ari ari ?_; conv => whnf) | (exact rr) | (refine And.intro rfl ?_; conv => whnf) | (refine AB.mk (fun h => ?_) (fun h => ?_) <;> (conv => whnf)))
      refine aF.mk ⟨k + 1, hlt, by omega, ?_, ai.nil⟩
      exact hds
theorem ER (x : DJobs) (hs : DJobs.small 1048576 x) : ak av 188 [.agg x.ds, .agg x.ds] (rB true) := by
  refine ac ah Tryz.func188 rfl Tryz.call188 Tryz.ntmps188 (congrArg Array.toList Tryz.results188) fun S => ?_; conv => whnf
  have h1 := neI x.index
  have h2 := neI x.time
  have h3 := neI x.holder
  have h4 := neI x.epoch
  have h5 := neI x.til
  repeat' (first | (refine aw0 ?_) | (refine awx ?_; conv => whnf) | (refine aa.pure (EN x.opens hs) rfl ?_; conv => whnf) | fail | (exact rr) | (refine And.intro rfl ?_; conv => whnf) | (refine AB.mk (fun h => ?_) (fun h => ?_) <;> (conv => whnf)))
theorem ET (x : DView) (hs : DView.small 1048576 x) : ak av 102 [.agg x.ds, .agg x.ds] (rB true) := by
  refine ac ah Tryz.func102 rfl Tryz.call102 Tryz.ntmps102 (congrArg Array.toList Tryz.results102) fun S => ?_; conv => whnf
  repeat' (first | (refine aw0 ?_) | (refine awx ?_; conv => whnf) | (refine aa.pure (ER x.jobs hs) rfl ?_; conv => whnf) | fail | (exact rr) | (refine And.intro rfl ?_; conv => whnf) | (refine AB.mk (fun h => ?_) (fun h => ?_) <;> (conv => whnf)))
theorem wJ (x : DSched) (hs : DSched.small 1048576 x) : ak av 34 [.agg x.ds, .agg x.ds] (rB true) := by
  refine ac ah Tryz.func34 rfl Tryz.call34 Tryz.ntmps34 (congrArg Array.toList Tryz.results34) fun S => ?_; conv => whnf
  have h1 := neI x.id
  have h2 := neI x.seq
  have h4 : (!(x.busy == x.busy)) = false := neB _
  have h6 := neI x.index
  repeat' (first | (refine aw0 ?_) | (refine awx ?_; conv => whnf) | (refine aa.pure (ET x.view hs) rfl ?_; conv => whnf) | (refine aa.pure (B8 x.op ) rfl ?_; conv => whnf) | fail | (exact rr) | (refine And.intro rfl ?_; conv => whnf) | (refine AB.mk (fun h => ?_) (fun h => ?_) <;> (conv => whnf)))
theorem zF (x : DWant) : ak av 189 [.agg x.ds, .agg x.ds] (rB true) := by
  refine ac ah Tryz.func189 rfl Tryz.call189 Tryz.ntmps189 (congrArg Array.toList Tryz.results189) fun S => ?_; conv => whnf
  have h1 := neI x.kind
  have h3 := neI x.key
  repeat' (first | (refine aw0 ?_) | (refine awx ?_; conv => whnf) | (refine aa.pure (B8 x.op ) rfl ?_; conv => whnf) | fail | (exact rr) | (refine And.intro rfl ?_; conv => whnf) | (refine AB.mk (fun h => ?_) (fun h => ?_) <;> (conv => whnf)))
theorem DK (l : (List DWant)) (hs : l.length ≤ 1048576) : ak av 104 [.one (.sl (l.map DWant.ds)), .one (.sl (l.map DWant.ds))] (rB true) := by
  have hl : l.length ≤ 1048576 := hs
  refine ac ah Tryz.func104 rfl Tryz.call104 Tryz.ntmps104 (congrArg Array.toList Tryz.results104) fun S => ?_; conv => whnf
  have h0 : (((l.map DWant.ds).length : Int) != ((l.map DWant.ds).length : Int)) = false := neI _
  repeat' (first | (refine aw0 ?_) | (refine awx ?_; conv => whnf) | fail | (exact rr) | (refine And.intro rfl ?_; conv => whnf) | (refine AB.mk (fun h => ?_) (fun h => ?_) <;> (conv => whnf)))
  refine AWP.loopS (fun k : Nat => k ≤ l.length) [4, 5, 11, 12, 13, 14, 15, 16, 17, 18, 19, 20, 21, 22, 23, 24, 25, 26] (fun k => [(5, vI .i64 (k : Int))]) (fun k => []) (fun k => l.length - k) 0 (by omega) ?_ ai.nil (fun k hR => ?_) <;> (conv => whnf)
  · exact whd
  · repeat' (first | (refine aw0 ?_) | (refine awx ?_; conv => whnf) | fail | (exact rr) | (refine And.intro rfl ?_; conv => whnf) | (refine AB.mk (fun h => ?_) (fun h => ?_) <;> (conv => whnf)))
    · have hlt : k < l.length := ari
      (refine AWP.drawK ah 6 8 mp mN (by kernel_rfl) (by kernel_rfl) (by kernel_rfl) rfl ?_; conv => whnf)
      repeat' (first | (refine aw0 ?_) | (refine awx ?_; conv => whnf) | fail | (refine AIx.map hlt ?_; conv => whnf) | (refine aa.pure (zF _ ) rfl ?_; conv => whnf) | (refine ae.mk ⟨_, _, zF _ , .inl rfl, ?_⟩; conv => whnf) | (refine AW.i64 ari ari ?_; conv => whnf) | (exact rr) | (refine And.intro rfl ?_; conv => whnf) | (refine AB.mk (fun h => ?_) (fun h => ?_) <;> (conv => whnf)))
      refine aF.mk ⟨k + 1, hlt, by omega, ?_, ai.nil⟩
      exact hds
theorem CV (x : DGot) : ak av 190 [.agg x.ds, .agg x.ds] (rB true) := by
  refine ac ah Tryz.func190 rfl Tryz.call190 Tryz.ntmps190 (congrArg Array.toList Tryz.results190) fun S => ?_; conv => whnf
  have h1 := neI x.seq
  have h2 := neI x.index
  have h3 := neI x.has
  have h4 := neI x.value
  repeat' (first | (refine aw0 ?_) | (refine awx ?_; conv => whnf) | fail | (exact rr) | (refine And.intro rfl ?_; conv => whnf) | (refine AB.mk (fun h => ?_) (fun h => ?_) <;> (conv => whnf)))
theorem EO (l : (List DGot)) (hs : l.length ≤ 1048576) : ak av 105 [.one (.sl (l.map DGot.ds)), .one (.sl (l.map DGot.ds))] (rB true) := by
  have hl : l.length ≤ 1048576 := hs
  refine ac ah Tryz.func105 rfl Tryz.call105 Tryz.ntmps105 (congrArg Array.toList Tryz.results105) fun S => ?_; conv => whnf
  have h0 : (((l.map DGot.ds).length : Int) != ((l.map DGot.ds).length : Int)) = false := neI _
  repeat' (first | (refine aw0 ?_) | (refine awx ?_; conv => whnf) | fail | (exact rr) | (refine And.intro rfl ?_; conv => whnf) | (refine AB.mk (fun h => ?_) (fun h => ?_) <;> (conv => whnf)))
  refine AWP.loopS (fun k : Nat => k ≤ l.length) [4, 5, 11, 12, 13, 14, 15, 16, 17, 18, 19, 20, 21, 22, 23, 24, 25, 26] (fun k => [(5, vI .i64 (k : Int))]) (fun k => []) (fun k => l.length - k) 0 (by omega) ?_ ai.nil (fun k hR => ?_) <;> (conv => whnf)
  · exact whd
  · repeat' (first | (refine aw0 ?_) | (refine awx ?_; conv => whnf) | fail | (exact rr) | (refine And.intro rfl ?_; conv => whnf) | (refine AB.mk (fun h => ?_) (fun h => ?_) <;> (conv => whnf)))
    · have hlt : k < l.length := ari
      (refine AWP.drawK ah 6 8 nv nL (by kernel_rfl) (by kernel_rfl) (by kernel_rfl) rfl ?_; conv => whnf)
      repeat' (first | (refine aw0 ?_) | (refine awx ?_; conv => whnf) | fail | (refine AIx.map hlt ?_; conv => whnf) | (refine aa.pure (CV _ ) rfl ?_; conv => whnf) | (refine ae.mk ⟨_, _, CV _ , .inl rfl, ?_⟩; conv => whnf) | (refine AW.i64 ari ari ?_; conv => whnf) | (exact rr) | (refine And.intro rfl ?_; conv => whnf) | (refine AB.mk (fun h => ?_) (fun h => ?_) <;> (conv => whnf)))
      refine aF.mk ⟨k + 1, hlt, by omega, ?_, ai.nil⟩
      exact hds
theorem t8 (x : DClient) (hs : DClient.small 1048576 x) : ak av 35 [.agg x.ds, .agg x.ds] (rB true) := by
  refine ac ah Tryz.func35 rfl Tryz.call35 Tryz.ntmps35 (congrArg Array.toList Tryz.results35) fun S => ?_; conv => whnf
  have h1 := neI x.id
  have h4 := neI x.last
  repeat' (first | (refine aw0 ?_) | (refine awx ?_; conv => whnf) | (refine aa.pure (DK x.todo hs.1) rfl ?_; conv => whnf) | (refine aa.pure (EO x.gots hs.2) rfl ?_; conv => whnf) | fail | (exact rr) | (refine And.intro rfl ?_; conv => whnf) | (refine AB.mk (fun h => ?_) (fun h => ?_) <;> (conv => whnf)))
theorem CX (x : DMsg) (hs : DMsg.small 1048576 x) : ak av 191 [.agg x.ds, .agg x.ds] (rB true) := by
  refine ac ah Tryz.func191 rfl Tryz.call191 Tryz.ntmps191 (congrArg Array.toList Tryz.results191) fun S => ?_; conv => whnf
  have h1 := neI x.frm
  have h2 := neI x.to_
  repeat' (first | (refine aw0 ?_) | (refine awx ?_; conv => whnf) | (refine aa.pure (iG x.row hs) rfl ?_; conv => whnf) | fail | (exact rr) | (refine And.intro rfl ?_; conv => whnf) | (refine AB.mk (fun h => ?_) (fun h => ?_) <;> (conv => whnf)))
theorem ES (l : (List DMsg)) (hs : l.length ≤ 1048576 ∧ ∀ y ∈ l, DMsg.small 1048576 y) : ak av 106 [.one (.sl (l.map DMsg.ds)), .one (.sl (l.map DMsg.ds))] (rB true) := by
  have hl : l.length ≤ 1048576 := hs.1
  refine ac ah Tryz.func106 rfl Tryz.call106 Tryz.ntmps106 (congrArg Array.toList Tryz.results106) fun S => ?_; conv => whnf
  have h0 : (((l.map DMsg.ds).length : Int) != ((l.map DMsg.ds).length : Int)) = false := neI _
  repeat' (first | (refine aw0 ?_) | (refine awx ?_; conv => whnf) | fail | (exact rr) | (refine And.intro rfl ?_; conv => whnf) | (refine AB.mk (fun h => ?_) (fun h => ?_) <;> (conv => whnf)))
  refine AWP.loopS (fun k : Nat => k ≤ l.length) [4, 5, 11, 12, 13, 14, 15, 16, 17, 18, 19, 20, 21, 22, 23, 24, 25, 26] (fun k => [(5, vI .i64 (k : Int))]) (fun k => []) (fun k => l.length - k) 0 (by omega) ?_ ai.nil (fun k hR => ?_) <;> (conv => whnf)
  · exact whd
  · repeat' (first | (refine aw0 ?_) | (refine awx ?_; conv => whnf) | fail | (exact rr) | (refine And.intro rfl ?_; conv => whnf) | (refine AB.mk (fun h => ?_) (fun h => ?_) <;> (conv => whnf)))
    · have hlt : k < l.length := ari
      (refine AWP.drawK ah 6 8 nx nN (by kernel_rfl) (by kernel_rfl) (by kernel_rfl) rfl ?_; conv => whnf)
      repeat' (first | (refine aw0 ?_) | (refine awx ?_; conv => whnf) | fail | (refine AIx.map hlt ?_; conv => whnf) | (refine aa.pure (CX _ (hs.2 _ (List.getElem_mem hlt))) rfl ?_; conv => whnf) | (refine ae.mk ⟨_, _, CX _ (hs.2 _ (List.getElem_mem hlt)), .inl rfl, ?_⟩; conv => whnf) | (refine AW.i64 ari ari ?_; conv => whnf) | (exact rr) | (refine And.intro rfl ?_; conv => whnf) | (refine AB.mk (fun h => ?_) (fun h => ?_) <;> (conv => whnf)))
      refine aF.mk ⟨k + 1, hlt, by omega, ?_, ai.nil⟩
      exact hds
theorem zB (x : DLink) : ak av 192 [.agg x.ds, .agg x.ds] (rB true) := by
  refine ac ah Tryz.func192 rfl Tryz.call192 Tryz.ntmps192 (congrArg Array.toList Tryz.results192) fun S => ?_; conv => whnf
  have h1 := neI x.a
  have h2 := neI x.b
  repeat' (first | (refine aw0 ?_) | (refine awx ?_; conv => whnf) | fail | (exact rr) | (refine And.intro rfl ?_; conv => whnf) | (refine AB.mk (fun h => ?_) (fun h => ?_) <;> (conv => whnf)))
theorem DG (l : (List DLink)) (hs : l.length ≤ 1048576) : ak av 107 [.one (.sl (l.map DLink.ds)), .one (.sl (l.map DLink.ds))] (rB true) := by
  have hl : l.length ≤ 1048576 := hs
  refine ac ah Tryz.func107 rfl Tryz.call107 Tryz.ntmps107 (congrArg Array.toList Tryz.results107) fun S => ?_; conv => whnf
  have h0 : (((l.map DLink.ds).length : Int) != ((l.map DLink.ds).length : Int)) = false := neI _
  repeat' (first | (refine aw0 ?_) | (refine awx ?_; conv => whnf) | fail | (exact rr) | (refine And.intro rfl ?_; conv => whnf) | (refine AB.mk (fun h => ?_) (fun h => ?_) <;> (conv => whnf)))
  refine AWP.loopS (fun k : Nat => k ≤ l.length) [4, 5, 11, 12, 13, 14, 15, 16, 17, 18, 19, 20, 21, 22, 23, 24, 25, 26] (fun k => [(5, vI .i64 (k : Int))]) (fun k => []) (fun k => l.length - k) 0 (by omega) ?_ ai.nil (fun k hR => ?_) <;> (conv => whnf)
  · exact whd
  · repeat' (first | (refine aw0 ?_) | (refine awx ?_; conv => whnf) | fail | (exact rr) | (refine And.intro rfl ?_; conv => whnf) | (refine AB.mk (fun h => ?_) (fun h => ?_) <;> (conv => whnf)))
    · have hlt : k < l.length := ari
      (refine AWP.drawK ah 6 8 mm mK (by kernel_rfl) (by kernel_rfl) (by kernel_rfl) rfl ?_; conv => whnf)
      repeat' (first | (refine aw0 ?_) | (refine awx ?_; conv => whnf) | fail | (refine AIx.map hlt ?_; conv => whnf) | (refine aa.pure (zB _ ) rfl ?_; conv => whnf) | (refine ae.mk ⟨_, _, zB _ , .inl rfl, ?_⟩; conv => whnf) | (refine AW.i64 ari ari ?_; conv => whnf) | (exact rr) | (refine And.intro rfl ?_; conv => whnf) | (refine AB.mk (fun h => ?_) (fun h => ?_) <;> (conv => whnf)))
      refine aF.mk ⟨k + 1, hlt, by omega, ?_, ai.nil⟩
      exact hds
theorem FZ (x : DNet) (hs : DNet.small 1048576 x) : ak av 36 [.agg x.ds, .agg x.ds] (rB true) := by
  refine ac ah Tryz.func36 rfl Tryz.call36 Tryz.ntmps36 (congrArg Array.toList Tryz.results36) fun S => ?_; conv => whnf
  repeat' (first | (refine aw0 ?_) | (refine awx ?_; conv => whnf) | (refine aa.pure (ES x.flight ⟨hs.1, hs.2.1⟩) rfl ?_; conv => whnf) | (refine aa.pure (DG x.cuts hs.2.2) rfl ?_; conv => whnf) | fail | (exact rr) | (refine And.intro rfl ?_; conv => whnf) | (refine AB.mk (fun h => ?_) (fun h => ?_) <;> (conv => whnf)))
theorem DE (l : (List Bool)) (hs : l.length ≤ 1048576) : ak av 38 [.one (.sl (l.map eB)), .one (.sl (l.map eB))] (rB true) := by
  have hl : l.length ≤ 1048576 := hs
  refine ac ah Tryz.func38 rfl Tryz.call38 Tryz.ntmps38 (congrArg Array.toList Tryz.results38) fun S => ?_; conv => whnf
  have h0 : (((l.map eB).length : Int) != ((l.map eB).length : Int)) = false := neI _
  repeat' (first | (refine aw0 ?_) | (refine awx ?_; conv => whnf) | fail | (exact rr) | (refine And.intro rfl ?_; conv => whnf) | (refine AB.mk (fun h => ?_) (fun h => ?_) <;> (conv => whnf)))
  refine AWP.loopS (fun k : Nat => k ≤ l.length) [4, 5, 11, 12, 13, 14, 15, 16, 17, 18, 19, 20, 21, 22, 23, 24, 25] (fun k => [(5, vI .i64 (k : Int))]) (fun k => []) (fun k => l.length - k) 0 (by omega) ?_ ai.nil (fun k hR => ?_) <;> (conv => whnf)
  · exact whd
  · repeat' (first | (refine aw0 ?_) | (refine awx ?_; conv => whnf) | fail | (exact rr) | (refine And.intro rfl ?_; conv => whnf) | (refine AB.mk (fun h => ?_) (fun h => ?_) <;> (conv => whnf)))
    · have hlt : k < l.length := ari
      have hne : (!(l[k] == l[k])) = false := neB _
      (refine AWP.drawK ah 6 8 ml mJ (by kernel_rfl) (by kernel_rfl) (by kernel_rfl) rfl ?_; conv => whnf)
      repeat' (first | (refine aw0 ?_) | (refine awx ?_; conv => whnf) | fail | (refine AIx.map hlt ?_; conv => whnf) | (refine AW.i64 ari ari ?_; conv => whnf) | (exact rr) | (refine And.intro rfl ?_; conv => whnf) | (refine AB.mk (fun h => ?_) (fun h => ?_) <;> (conv => whnf)))
      refine aF.mk ⟨k + 1, hlt, by omega, ?_, ai.nil⟩
      exact hds
theorem eg (x : DWorld) (hs : DWorld.small 1048576 x) : ak av 9 [.agg x.ds, .agg x.ds] (rB true) := by
  refine ac ah Tryz.func9 rfl Tryz.call9 Tryz.ntmps9 (congrArg Array.toList Tryz.results9) fun S => ?_; conv => whnf
  repeat' (first | (refine aw0 ?_) | (refine awx ?_; conv => whnf) | (refine aa.pure (zC x.log hs.1) rfl ?_; conv => whnf) | (refine aa.pure (DJ x.store hs.2.1) rfl ?_; conv => whnf) | (refine aa.pure (wJ x.left hs.2.2.1) rfl ?_; conv => whnf) | (refine aa.pure (wJ x.right hs.2.2.2.1) rfl ?_; conv => whnf) | (refine aa.pure (t8 x.ann hs.2.2.2.2.1) rfl ?_; conv => whnf) | (refine aa.pure (t8 x.bob hs.2.2.2.2.2.1) rfl ?_; conv => whnf) | (refine aa.pure (FZ x.net hs.2.2.2.2.2.2.1) rfl ?_; conv => whnf) | (refine aa.pure (iG x.clocks hs.2.2.2.2.2.2.2.1) rfl ?_; conv => whnf) | (refine aa.pure (DE x.up hs.2.2.2.2.2.2.2.2) rfl ?_; conv => whnf) | fail | (exact rr) | (refine And.intro rfl ?_; conv => whnf) | (refine AB.mk (fun h => ?_) (fun h => ?_) <;> (conv => whnf)))
end Go.Proofs.YtcmknngafflcnaaGreat
namespace Go.Proofs.YtcmknngafflcnaaGreat
open Go.ChangeShapes Go.WideShapes Go.RowKit
theorem cF {a b : Int} (h : a = b) : AP.val (.one (dI a)) = rI b := by rw [h]
theorem aa.sz {E : ba} {S : bt} {f : FuncId} {args : List AV} {st : ASt} {K : AV → ASt → Prop} {p : AP1} {left a : Int} (hc : ak E f [p, pI left] (rI (max (left - a) (-1)))) (hps : aPs args (· = [p, pI left]))
    (h1 : decide (left - a < 0) = true → K (vI .i64 (-1)) st) (h2 : decide (left - a < 0) = false → K (vI .i64 (left - a)) st) : aa E S f args st K := by
  refine aa.pure hc hps ?_
  cases h : decide (left - a < 0) with
  | true =>
    have e : max (left - a) (-1) = -1 := by simp only [decide_eq_true_eq] at h; omega
    rw [e]; exact h1 h
  | false =>
    have e : max (left - a) (-1) = left - a := by simp only [decide_eq_false_iff_not] at h; omega
    rw [e]; exact h2 h
def fG {α : Type} (f : α → Nat) : List α → Nat
  | [] => 0
  | x :: r => 1 + f x + fG f r
theorem gM {α : Type} (f : α → Nat) : ∀ l : List α, l.length ≤ fG f l
  | [] => Nat.le_refl _
  | x :: r => by have := gM f r; simp only [List.length_cons, fG]; omega
theorem qw {α : Type} {f : α → Nat} : ∀ {l : List α} {y : α}, y ∈ l → f y ≤ fG f l
  | x :: r, y, h => by
    rcases List.mem_cons.1 h with rfl | h
    · simp only [fG]; omega
    · have := qw (f := f) h; simp only [fG]; omega
theorem gm {α : Type} (f : α → Nat) : ∀ (l : List α) (k : Nat), (l.length : Int) - (l.take k).length + fG f (l.take k) ≤ fG f l
  | [], k => by simp [fG]
  | x :: r, 0 => by have := gM f (x :: r); simp [fG] at *; omega
  | x :: r, k + 1 => by have := gm f r k; simp only [List.take_succ_cons, List.length_cons, fG] at *; omega
theorem oA {α : Type} (f : α → Nat) : ∀ (l : List α) (k : Nat) (h : k < l.length), fG f (l.take (k + 1)) = fG f (l.take k) + 1 + f l[k]
  | x :: r, 0, h => by simp [fG]
  | x :: r, k + 1, h => by
    have := oA f r k (by simpa using h)
    simp only [List.take_succ_cons, fG, List.getElem_cons_succ] at *
    omega
def DWrite.cnt (x : DWrite) : Nat := x.row.length
theorem DWrite.cnt_small {x : DWrite} {n : Nat} (h : x.cnt ≤ n) : DWrite.small n x := by
  unfold DWrite.cnt at h
  unfold DWrite.small
  exact (by omega)
def DDisk.cnt (x : DDisk) : Nat := fG (fun l => l.length) x.kept + fG DWrite.cnt x.wait
theorem DDisk.cnt_small {x : DDisk} {n : Nat} (h : x.cnt ≤ n) : DDisk.small n x := by
  unfold DDisk.cnt at h
  unfold DDisk.small
  exact ⟨(by have := gM (fun l => l.length) x.kept; omega), (fun y hy => (by have : y.length ≤ _ := qw (f := (fun l => l.length)) hy; omega)), (by have := gM DWrite.cnt x.wait; omega), (fun y hy => DWrite.cnt_small (by have := qw (f := DWrite.cnt) hy; omega))⟩
def DTwo.cnt (x : DTwo) : Nat := DDisk.cnt x.a + DDisk.cnt x.b
theorem DTwo.cnt_small {x : DTwo} {n : Nat} (h : x.cnt ≤ n) : DTwo.small n x := by
  unfold DTwo.cnt at h
  unfold DTwo.small
  exact ⟨(DDisk.cnt_small (by omega)), (DDisk.cnt_small (by omega))⟩
def DHead.cnt (x : DHead) : Nat := x.seen.length
theorem DHead.cnt_small {x : DHead} {n : Nat} (h : x.cnt ≤ n) : DHead.small n x := by
  unfold DHead.cnt at h
  unfold DHead.small
  exact (by omega)
def DBook.cnt (x : DBook) : Nat := x.entries.length
theorem DBook.cnt_small {x : DBook} {n : Nat} (h : x.cnt ≤ n) : DBook.small n x := by
  unfold DBook.cnt at h
  unfold DBook.small
  exact (by omega)
def DLogNode.cnt (x : DLogNode) : Nat := DTwo.cnt x.two + DHead.cnt x.head + DHead.cnt x.nxt + DBook.cnt x.book + x.seen.length + x.owe.length
theorem DLogNode.cnt_small {x : DLogNode} {n : Nat} (h : x.cnt ≤ n) : DLogNode.small n x := by
  unfold DLogNode.cnt at h
  unfold DLogNode.small
  exact ⟨(DTwo.cnt_small (by omega)), (DHead.cnt_small (by omega)), (DHead.cnt_small (by omega)), (DBook.cnt_small (by omega)), (by omega), (by omega)⟩
def DState.cnt (x : DState) : Nat := x.pairs.length + x.jobs.length
theorem DState.cnt_small {x : DState} {n : Nat} (h : x.cnt ≤ n) : DState.small n x := by
  unfold DState.cnt at h
  unfold DState.small
  exact ⟨(by omega), (by omega)⟩
def DStore.cnt (x : DStore) : Nat := DDisk.cnt x.disk + DState.cnt x.state
theorem DStore.cnt_small {x : DStore} {n : Nat} (h : x.cnt ≤ n) : DStore.small n x := by
  unfold DStore.cnt at h
  unfold DStore.small
  exact ⟨(DDisk.cnt_small (by omega)), (DState.cnt_small (by omega))⟩
def DJobs.cnt (x : DJobs) : Nat := x.opens.length
theorem DJobs.cnt_small {x : DJobs} {n : Nat} (h : x.cnt ≤ n) : DJobs.small n x := by
  unfold DJobs.cnt at h
  unfold DJobs.small
  exact (by omega)
def DView.cnt (x : DView) : Nat := DJobs.cnt x.jobs
theorem DView.cnt_small {x : DView} {n : Nat} (h : x.cnt ≤ n) : DView.small n x := by
  unfold DView.cnt at h
  unfold DView.small
  exact (DJobs.cnt_small (by omega))
def DSched.cnt (x : DSched) : Nat := DView.cnt x.view
theorem DSched.cnt_small {x : DSched} {n : Nat} (h : x.cnt ≤ n) : DSched.small n x := by
  unfold DSched.cnt at h
  unfold DSched.small
  exact (DView.cnt_small (by omega))
def DClient.cnt (x : DClient) : Nat := x.todo.length + x.gots.length
theorem DClient.cnt_small {x : DClient} {n : Nat} (h : x.cnt ≤ n) : DClient.small n x := by
  unfold DClient.cnt at h
  unfold DClient.small
  exact ⟨(by omega), (by omega)⟩
def DMsg.cnt (x : DMsg) : Nat := x.row.length
theorem DMsg.cnt_small {x : DMsg} {n : Nat} (h : x.cnt ≤ n) : DMsg.small n x := by
  unfold DMsg.cnt at h
  unfold DMsg.small
  exact (by omega)
def DNet.cnt (x : DNet) : Nat := fG DMsg.cnt x.flight + x.cuts.length
theorem DNet.cnt_small {x : DNet} {n : Nat} (h : x.cnt ≤ n) : DNet.small n x := by
  unfold DNet.cnt at h
  unfold DNet.small
  exact ⟨(by have := gM DMsg.cnt x.flight; omega), (fun y hy => DMsg.cnt_small (by have := qw (f := DMsg.cnt) hy; omega)), (by omega)⟩
def DWorld.cnt (x : DWorld) : Nat := DLogNode.cnt x.log + DStore.cnt x.store + DSched.cnt x.left + DSched.cnt x.right + DClient.cnt x.ann + DClient.cnt x.bob + DNet.cnt x.net + x.clocks.length + x.up.length
theorem DWorld.cnt_small {x : DWorld} {n : Nat} (h : x.cnt ≤ n) : DWorld.small n x := by
  unfold DWorld.cnt at h
  unfold DWorld.small
  exact ⟨(DLogNode.cnt_small (by omega)), (DStore.cnt_small (by omega)), (DSched.cnt_small (by omega)), (DSched.cnt_small (by omega)), (DClient.cnt_small (by omega)), (DClient.cnt_small (by omega)), (DNet.cnt_small (by omega)), (by omega), (by omega)⟩
theorem ly (l : (List Int)) (left : Int) (h0 : 0 ≤ left) (h1 : left ≤ 1048576) (hs : l.length ≤ 9223372036854775807) : ak av 19 [.one (.sl (l.map eI)), pI left] (rI (max (left - l.length) (-1))) := by
  refine ac ah Tryz.func19 rfl Tryz.call19 Tryz.ntmps19 (congrArg Array.toList Tryz.results19) fun S => ?_; conv => whnf
  repeat' (first | (refine aw0 ?_) | (refine awx ?_; conv => whnf) | (refine AW.i64 (n := _ - _) (by first | omega | (simp only [decide_eq_true_eq, decide_eq_false_iff_not, List.length_map] at *; omega)) (by first | omega | (simp only [decide_eq_true_eq, decide_eq_false_iff_not, List.length_map] at *; omega)) ?_; conv => whnf) | fail | (exact rr) | (refine And.intro rfl ?_; conv => whnf) | (refine AB.mk (fun h => ?_) (fun h => ?_) <;> (conv => whnf)))
  all_goals
    refine cF ?_
    simp only [decide_eq_true_eq, decide_eq_false_iff_not, List.length_map] at *
    omega
theorem Ba (l : (List (List Int))) (left : Int) (h0 : 0 ≤ left) (h1 : left ≤ 1048576) (hs : l.length ≤ 9223372036854775807 ∧ ∀ y ∈ l, y.length ≤ 9223372036854775807) : ak av 134 [.one (.sl (l.map cG)), pI left] (rI (max (left - fG (fun l => l.length) l) (-1))) := by
  refine ac ah Tryz.func134 rfl Tryz.call134 Tryz.ntmps134 (congrArg Array.toList Tryz.results134) fun S => ?_; conv => whnf
  have hlen := hs.1
  have hcl := gM (fun l => l.length) l
  repeat' (first | (refine aw0 ?_) | (refine awx ?_; conv => whnf) | (refine AW.i64 (n := _ - _) (by first | omega | (simp only [decide_eq_true_eq, decide_eq_false_iff_not, List.length_map] at *; omega)) (by first | omega | (simp only [decide_eq_true_eq, decide_eq_false_iff_not, List.length_map] at *; omega)) ?_; conv => whnf) | fail | (exact rr) | (refine And.intro rfl ?_; conv => whnf) | (refine AB.mk (fun h => ?_) (fun h => ?_) <;> (conv => whnf)))
  · refine cF ?_
    simp only [decide_eq_true_eq, decide_eq_false_iff_not, List.length_map] at *
    omega
  refine AWP.loopS (fun p : Nat × Int => p.1 ≤ l.length ∧ 0 ≤ p.2 ∧ p.2 = left - l.length + (p.1 : Int) - fG (fun l => l.length) (l.take p.1)) [1, 4, 5, 12, 13, 14, 15, 16, 17, 18, 19, 20, 21, 22, 23, 24, 25] (fun p => [(1, vI .i64 p.2), (5, vI .i64 (p.1 : Int))]) (fun _ => []) (fun p => l.length - p.1) (0, left - ((l.map cG).length : Int)) ⟨by simp, (by first | omega | (simp only [decide_eq_true_eq, decide_eq_false_iff_not, List.length_map] at *; omega)), by simp [fG]⟩ ?_ ai.nil (fun p hR => ?_) <;> (conv => whnf)
  · exact whd
  · obtain ⟨k, v⟩ := p
    obtain ⟨hk, hv, he⟩ := hR
    simp only at hk hv he
    have htk := gm (fun l => l.length) l k
    have htl : (l.take k).length = k := by simp; omega
    repeat' (first | (refine aw0 ?_) | (refine awx ?_; conv => whnf) | fail | (refine AIx.mapF (by first | omega | (simp only [decide_eq_true_eq, decide_eq_false_iff_not, List.length_map] at *; omega)) (fun hlt => ?_); conv => whnf) | (refine aa.pure (ly _ _ hv (by first | omega | (simp only [decide_eq_true_eq, decide_eq_false_iff_not, List.length_map] at *; omega)) (hs.2 _ (List.getElem_mem hlt))) rfl ?_; conv => whnf) | (refine AW.i64 (by first | omega | (simp only [decide_eq_true_eq, decide_eq_false_iff_not, List.length_map] at *; omega)) (by first | omega | (simp only [decide_eq_true_eq, decide_eq_false_iff_not, List.length_map] at *; omega)) ?_; conv => whnf) | (exact rr) | (refine And.intro rfl ?_; conv => whnf) | (refine AB.mk (fun h => ?_) (fun h => ?_) <;> (conv => whnf)))
    all_goals first
      | (have hsu := oA (fun l => l.length) l k hlt
         have htk := gm (fun l => l.length) l (k + 1)
         have htl : (l.take (k + 1)).length = k + 1 := by simp; omega
         simp only [decide_eq_true_eq, decide_eq_false_iff_not, List.length_map] at *
         first
           | (refine cF ?_; omega)
           | (refine aF.mk ⟨(k + 1, max (v - ((l[k].length : Nat) : Int)) (-1)), ⟨by simp only; omega, by simp only; omega, by simp only; omega⟩, by simp only; omega, ?_, ai.nil⟩; exact hds))
      | (have hkk : k = l.length := (by first | omega | (simp only [decide_eq_true_eq, decide_eq_false_iff_not, List.length_map] at *; omega))
         subst hkk
         refine cF ?_
         rw [List.take_length] at he
         omega)
set_option maxHeartbeats 2000000 in
theorem Eb (x : DWrite) (left : Int) (h0 : 0 ≤ left) (h1 : left ≤ 1048576) (hs : DWrite.small 9223372036854775807 x) : ak av 206 [.agg x.ds, pI left] (rI (max (left - x.cnt) (-1))) := by
  refine ac ah Tryz.func206 rfl Tryz.call206 Tryz.ntmps206 (congrArg Array.toList Tryz.results206) fun S => ?_; conv => whnf
  repeat' (first | (refine aw0 ?_) | (refine awx ?_; conv => whnf) | fail | (refine aa.sz (ly x.row _ (by first | omega | (simp only [decide_eq_true_eq, decide_eq_false_iff_not, List.length_map] at *; omega)) (by first | omega | (simp only [decide_eq_true_eq, decide_eq_false_iff_not, List.length_map] at *; omega)) hs) rfl (fun h => ?_) (fun h => ?_) <;> (conv => whnf)) | (exact rr) | (refine And.intro rfl ?_; conv => whnf) | (refine AB.mk (fun h => ?_) (fun h => ?_) <;> (conv => whnf)))
  all_goals
    refine cF ?_
    first
      | omega
      | (simp only [decide_eq_true_eq, decide_eq_false_iff_not, DWrite.cnt] at * <;> omega)
theorem CA (l : (List DWrite)) (left : Int) (h0 : 0 ≤ left) (h1 : left ≤ 1048576) (hs : l.length ≤ 9223372036854775807 ∧ ∀ y ∈ l, DWrite.small 9223372036854775807 y) : ak av 135 [.one (.sl (l.map DWrite.ds)), pI left] (rI (max (left - fG DWrite.cnt l) (-1))) := by
  refine ac ah Tryz.func135 rfl Tryz.call135 Tryz.ntmps135 (congrArg Array.toList Tryz.results135) fun S => ?_; conv => whnf
  have hlen := hs.1
  have hcl := gM DWrite.cnt l
  repeat' (first | (refine aw0 ?_) | (refine awx ?_; conv => whnf) | (refine AW.i64 (n := _ - _) (by first | omega | (simp only [decide_eq_true_eq, decide_eq_false_iff_not, List.length_map] at *; omega)) (by first | omega | (simp only [decide_eq_true_eq, decide_eq_false_iff_not, List.length_map] at *; omega)) ?_; conv => whnf) | fail | (exact rr) | (refine And.intro rfl ?_; conv => whnf) | (refine AB.mk (fun h => ?_) (fun h => ?_) <;> (conv => whnf)))
  · refine cF ?_
    simp only [decide_eq_true_eq, decide_eq_false_iff_not, List.length_map] at *
    omega
  refine AWP.loopS (fun p : Nat × Int => p.1 ≤ l.length ∧ 0 ≤ p.2 ∧ p.2 = left - l.length + (p.1 : Int) - fG DWrite.cnt (l.take p.1)) [1, 4, 5, 12, 13, 14, 15, 16, 17, 18, 19, 20, 21, 22, 23, 24, 25] (fun p => [(1, vI .i64 p.2), (5, vI .i64 (p.1 : Int))]) (fun _ => []) (fun p => l.length - p.1) (0, left - ((l.map DWrite.ds).length : Int)) ⟨by simp, (by first | omega | (simp only [decide_eq_true_eq, decide_eq_false_iff_not, List.length_map] at *; omega)), by simp [fG]⟩ ?_ ai.nil (fun p hR => ?_) <;> (conv => whnf)
  · exact whd
  · obtain ⟨k, v⟩ := p
    obtain ⟨hk, hv, he⟩ := hR
    simp only at hk hv he
    have htk := gm DWrite.cnt l k
    have htl : (l.take k).length = k := by simp; omega
    repeat' (first | (refine aw0 ?_) | (refine awx ?_; conv => whnf) | fail | (refine AIx.mapF (by first | omega | (simp only [decide_eq_true_eq, decide_eq_false_iff_not, List.length_map] at *; omega)) (fun hlt => ?_); conv => whnf) | (refine aa.pure (Eb _ _ hv (by first | omega | (simp only [decide_eq_true_eq, decide_eq_false_iff_not, List.length_map] at *; omega)) (hs.2 _ (List.getElem_mem hlt))) rfl ?_; conv => whnf) | (refine AW.i64 (by first | omega | (simp only [decide_eq_true_eq, decide_eq_false_iff_not, List.length_map] at *; omega)) (by first | omega | (simp only [decide_eq_true_eq, decide_eq_false_iff_not, List.length_map] at *; omega)) ?_; conv => whnf) | (exact rr) | (refine And.intro rfl ?_; conv => whnf) | (refine AB.mk (fun h => ?_) (fun h => ?_) <;> (conv => whnf)))
    all_goals first
      | (have hsu := oA DWrite.cnt l k hlt
         have htk := gm DWrite.cnt l (k + 1)
         have htl : (l.take (k + 1)).length = k + 1 := by simp; omega
         simp only [decide_eq_true_eq, decide_eq_false_iff_not, List.length_map] at *
         first
           | (refine cF ?_; omega)
           | (refine aF.mk ⟨(k + 1, max (v - ((DWrite.cnt l[k] : Nat) : Int)) (-1)), ⟨by simp only; omega, by simp only; omega, by simp only; omega⟩, by simp only; omega, ?_, ai.nil⟩; exact hds))
      | (have hkk : k = l.length := (by first | omega | (simp only [decide_eq_true_eq, decide_eq_false_iff_not, List.length_map] at *; omega))
         subst hkk
         refine cF ?_
         rw [List.take_length] at he
         omega)
set_option maxHeartbeats 2000000 in
theorem vM (x : DDisk) (left : Int) (h0 : 0 ≤ left) (h1 : left ≤ 1048576) (hs : DDisk.small 9223372036854775807 x) : ak av 61 [.agg x.ds, pI left] (rI (max (left - x.cnt) (-1))) := by
  refine ac ah Tryz.func61 rfl Tryz.call61 Tryz.ntmps61 (congrArg Array.toList Tryz.results61) fun S => ?_; conv => whnf
  repeat' (first | (refine aw0 ?_) | (refine awx ?_; conv => whnf) | fail | (refine aa.sz (Ba x.kept _ (by first | omega | (simp only [decide_eq_true_eq, decide_eq_false_iff_not, List.length_map] at *; omega)) (by first | omega | (simp only [decide_eq_true_eq, decide_eq_false_iff_not, List.length_map] at *; omega)) ⟨hs.1, hs.2.1⟩) rfl (fun h => ?_) (fun h => ?_) <;> (conv => whnf)) | (refine aa.sz (CA x.wait _ (by first | omega | (simp only [decide_eq_true_eq, decide_eq_false_iff_not, List.length_map] at *; omega)) (by first | omega | (simp only [decide_eq_true_eq, decide_eq_false_iff_not, List.length_map] at *; omega)) ⟨hs.2.2.1, hs.2.2.2⟩) rfl (fun h => ?_) (fun h => ?_) <;> (conv => whnf)) | (exact rr) | (refine And.intro rfl ?_; conv => whnf) | (refine AB.mk (fun h => ?_) (fun h => ?_) <;> (conv => whnf)))
  all_goals
    refine cF ?_
    first
      | omega
      | (simp only [decide_eq_true_eq, decide_eq_false_iff_not, DDisk.cnt] at * <;> omega)
set_option maxHeartbeats 2000000 in
theorem GE (x : DTwo) (left : Int) (h0 : 0 ≤ left) (h1 : left ≤ 1048576) (hs : DTwo.small 9223372036854775807 x) : ak av 56 [.agg x.ds, pI left] (rI (max (left - x.cnt) (-1))) := by
  refine ac ah Tryz.func56 rfl Tryz.call56 Tryz.ntmps56 (congrArg Array.toList Tryz.results56) fun S => ?_; conv => whnf
  repeat' (first | (refine aw0 ?_) | (refine awx ?_; conv => whnf) | fail | (refine aa.sz (vM x.a _ (by first | omega | (simp only [decide_eq_true_eq, decide_eq_false_iff_not, List.length_map] at *; omega)) (by first | omega | (simp only [decide_eq_true_eq, decide_eq_false_iff_not, List.length_map] at *; omega)) hs.1) rfl (fun h => ?_) (fun h => ?_) <;> (conv => whnf)) | (refine aa.sz (vM x.b _ (by first | omega | (simp only [decide_eq_true_eq, decide_eq_false_iff_not, List.length_map] at *; omega)) (by first | omega | (simp only [decide_eq_true_eq, decide_eq_false_iff_not, List.length_map] at *; omega)) hs.2) rfl (fun h => ?_) (fun h => ?_) <;> (conv => whnf)) | (exact rr) | (refine And.intro rfl ?_; conv => whnf) | (refine AB.mk (fun h => ?_) (fun h => ?_) <;> (conv => whnf)))
  all_goals
    refine cF ?_
    first
      | omega
      | (simp only [decide_eq_true_eq, decide_eq_false_iff_not, DTwo.cnt] at * <;> omega)
theorem xC (l : (List DMark)) (left : Int) (h0 : 0 ≤ left) (h1 : left ≤ 1048576) (hs : l.length ≤ 9223372036854775807) : ak av 59 [.one (.sl (l.map DMark.ds)), pI left] (rI (max (left - l.length) (-1))) := by
  refine ac ah Tryz.func59 rfl Tryz.call59 Tryz.ntmps59 (congrArg Array.toList Tryz.results59) fun S => ?_; conv => whnf
  repeat' (first | (refine aw0 ?_) | (refine awx ?_; conv => whnf) | (refine AW.i64 (n := _ - _) (by first | omega | (simp only [decide_eq_true_eq, decide_eq_false_iff_not, List.length_map] at *; omega)) (by first | omega | (simp only [decide_eq_true_eq, decide_eq_false_iff_not, List.length_map] at *; omega)) ?_; conv => whnf) | fail | (exact rr) | (refine And.intro rfl ?_; conv => whnf) | (refine AB.mk (fun h => ?_) (fun h => ?_) <;> (conv => whnf)))
  all_goals
    refine cF ?_
    simp only [decide_eq_true_eq, decide_eq_false_iff_not, List.length_map] at *
    omega
set_option maxHeartbeats 2000000 in
theorem A9 (x : DHead) (left : Int) (h0 : 0 ≤ left) (h1 : left ≤ 1048576) (hs : DHead.small 9223372036854775807 x) : ak av 57 [.agg x.ds, pI left] (rI (max (left - x.cnt) (-1))) := by
  refine ac ah Tryz.func57 rfl Tryz.call57 Tryz.ntmps57 (congrArg Array.toList Tryz.results57) fun S => ?_; conv => whnf
  repeat' (first | (refine aw0 ?_) | (refine awx ?_; conv => whnf) | fail | (refine aa.sz (xC x.seen _ (by first | omega | (simp only [decide_eq_true_eq, decide_eq_false_iff_not, List.length_map] at *; omega)) (by first | omega | (simp only [decide_eq_true_eq, decide_eq_false_iff_not, List.length_map] at *; omega)) hs) rfl (fun h => ?_) (fun h => ?_) <;> (conv => whnf)) | (exact rr) | (refine And.intro rfl ?_; conv => whnf) | (refine AB.mk (fun h => ?_) (fun h => ?_) <;> (conv => whnf)))
  all_goals
    refine cF ?_
    first
      | omega
      | (simp only [decide_eq_true_eq, decide_eq_false_iff_not, DHead.cnt] at * <;> omega)
theorem Cz (l : (List DEntry)) (left : Int) (h0 : 0 ≤ left) (h1 : left ≤ 1048576) (hs : l.length ≤ 9223372036854775807) : ak av 133 [.one (.sl (l.map DEntry.ds)), pI left] (rI (max (left - l.length) (-1))) := by
  refine ac ah Tryz.func133 rfl Tryz.call133 Tryz.ntmps133 (congrArg Array.toList Tryz.results133) fun S => ?_; conv => whnf
  repeat' (first | (refine aw0 ?_) | (refine awx ?_; conv => whnf) | (refine AW.i64 (n := _ - _) (by first | omega | (simp only [decide_eq_true_eq, decide_eq_false_iff_not, List.length_map] at *; omega)) (by first | omega | (simp only [decide_eq_true_eq, decide_eq_false_iff_not, List.length_map] at *; omega)) ?_; conv => whnf) | fail | (exact rr) | (refine And.intro rfl ?_; conv => whnf) | (refine AB.mk (fun h => ?_) (fun h => ?_) <;> (conv => whnf)))
  all_goals
    refine cF ?_
    simp only [decide_eq_true_eq, decide_eq_false_iff_not, List.length_map] at *
    omega
set_option maxHeartbeats 2000000 in
theorem Fr (x : DBook) (left : Int) (h0 : 0 ≤ left) (h1 : left ≤ 1048576) (hs : DBook.small 9223372036854775807 x) : ak av 58 [.agg x.ds, pI left] (rI (max (left - x.cnt) (-1))) := by
  refine ac ah Tryz.func58 rfl Tryz.call58 Tryz.ntmps58 (congrArg Array.toList Tryz.results58) fun S => ?_; conv => whnf
  repeat' (first | (refine aw0 ?_) | (refine awx ?_; conv => whnf) | fail | (refine aa.sz (Cz x.entries _ (by first | omega | (simp only [decide_eq_true_eq, decide_eq_false_iff_not, List.length_map] at *; omega)) (by first | omega | (simp only [decide_eq_true_eq, decide_eq_false_iff_not, List.length_map] at *; omega)) hs) rfl (fun h => ?_) (fun h => ?_) <;> (conv => whnf)) | (exact rr) | (refine And.intro rfl ?_; conv => whnf) | (refine AB.mk (fun h => ?_) (fun h => ?_) <;> (conv => whnf)))
  all_goals
    refine cF ?_
    first
      | omega
      | (simp only [decide_eq_true_eq, decide_eq_false_iff_not, DBook.cnt] at * <;> omega)
theorem Fq (l : (List DAck)) (left : Int) (h0 : 0 ≤ left) (h1 : left ≤ 1048576) (hs : l.length ≤ 9223372036854775807) : ak av 60 [.one (.sl (l.map DAck.ds)), pI left] (rI (max (left - l.length) (-1))) := by
  refine ac ah Tryz.func60 rfl Tryz.call60 Tryz.ntmps60 (congrArg Array.toList Tryz.results60) fun S => ?_; conv => whnf
  repeat' (first | (refine aw0 ?_) | (refine awx ?_; conv => whnf) | (refine AW.i64 (n := _ - _) (by first | omega | (simp only [decide_eq_true_eq, decide_eq_false_iff_not, List.length_map] at *; omega)) (by first | omega | (simp only [decide_eq_true_eq, decide_eq_false_iff_not, List.length_map] at *; omega)) ?_; conv => whnf) | fail | (exact rr) | (refine And.intro rfl ?_; conv => whnf) | (refine AB.mk (fun h => ?_) (fun h => ?_) <;> (conv => whnf)))
  all_goals
    refine cF ?_
    simp only [decide_eq_true_eq, decide_eq_false_iff_not, List.length_map] at *
    omega
set_option maxHeartbeats 2000000 in
theorem Bc (x : DLogNode) (left : Int) (h0 : 0 ≤ left) (h1 : left ≤ 1048576) (hs : DLogNode.small 9223372036854775807 x) : ak av 14 [.agg x.ds, pI left] (rI (max (left - x.cnt) (-1))) := by
  refine ac ah Tryz.func14 rfl Tryz.call14 Tryz.ntmps14 (congrArg Array.toList Tryz.results14) fun S => ?_; conv => whnf
  repeat' (first | (refine aw0 ?_) | (refine awx ?_; conv => whnf) | fail | (refine aa.sz (GE x.two _ (by first | omega | (simp only [decide_eq_true_eq, decide_eq_false_iff_not, List.length_map] at *; omega)) (by first | omega | (simp only [decide_eq_true_eq, decide_eq_false_iff_not, List.length_map] at *; omega)) hs.1) rfl (fun h => ?_) (fun h => ?_) <;> (conv => whnf)) | (refine aa.sz (A9 x.head _ (by first | omega | (simp only [decide_eq_true_eq, decide_eq_false_iff_not, List.length_map] at *; omega)) (by first | omega | (simp only [decide_eq_true_eq, decide_eq_false_iff_not, List.length_map] at *; omega)) hs.2.1) rfl (fun h => ?_) (fun h => ?_) <;> (conv => whnf)) | (refine aa.sz (A9 x.nxt _ (by first | omega | (simp only [decide_eq_true_eq, decide_eq_false_iff_not, List.length_map] at *; omega)) (by first | omega | (simp only [decide_eq_true_eq, decide_eq_false_iff_not, List.length_map] at *; omega)) hs.2.2.1) rfl (fun h => ?_) (fun h => ?_) <;> (conv => whnf)) | (refine aa.sz (Fr x.book _ (by first | omega | (simp only [decide_eq_true_eq, decide_eq_false_iff_not, List.length_map] at *; omega)) (by first | omega | (simp only [decide_eq_true_eq, decide_eq_false_iff_not, List.length_map] at *; omega)) hs.2.2.2.1) rfl (fun h => ?_) (fun h => ?_) <;> (conv => whnf)) | (refine aa.sz (xC x.seen _ (by first | omega | (simp only [decide_eq_true_eq, decide_eq_false_iff_not, List.length_map] at *; omega)) (by first | omega | (simp only [decide_eq_true_eq, decide_eq_false_iff_not, List.length_map] at *; omega)) hs.2.2.2.2.1) rfl (fun h => ?_) (fun h => ?_) <;> (conv => whnf)) | (refine aa.sz (Fq x.owe _ (by first | omega | (simp only [decide_eq_true_eq, decide_eq_false_iff_not, List.length_map] at *; omega)) (by first | omega | (simp only [decide_eq_true_eq, decide_eq_false_iff_not, List.length_map] at *; omega)) hs.2.2.2.2.2) rfl (fun h => ?_) (fun h => ?_) <;> (conv => whnf)) | (exact rr) | (refine And.intro rfl ?_; conv => whnf) | (refine AB.mk (fun h => ?_) (fun h => ?_) <;> (conv => whnf)))
  all_goals
    refine cF ?_
    first
      | omega
      | (simp only [decide_eq_true_eq, decide_eq_false_iff_not, DLogNode.cnt] at * <;> omega)
theorem D7 (l : (List DPair)) (left : Int) (h0 : 0 ≤ left) (h1 : left ≤ 1048576) (hs : l.length ≤ 9223372036854775807) : ak av 136 [.one (.sl (l.map DPair.ds)), pI left] (rI (max (left - l.length) (-1))) := by
  refine ac ah Tryz.func136 rfl Tryz.call136 Tryz.ntmps136 (congrArg Array.toList Tryz.results136) fun S => ?_; conv => whnf
  repeat' (first | (refine aw0 ?_) | (refine awx ?_; conv => whnf) | (refine AW.i64 (n := _ - _) (by first | omega | (simp only [decide_eq_true_eq, decide_eq_false_iff_not, List.length_map] at *; omega)) (by first | omega | (simp only [decide_eq_true_eq, decide_eq_false_iff_not, List.length_map] at *; omega)) ?_; conv => whnf) | fail | (exact rr) | (refine And.intro rfl ?_; conv => whnf) | (refine AB.mk (fun h => ?_) (fun h => ?_) <;> (conv => whnf)))
  all_goals
    refine cF ?_
    simp only [decide_eq_true_eq, decide_eq_false_iff_not, List.length_map] at *
    omega
theorem Fu (l : (List DJob)) (left : Int) (h0 : 0 ≤ left) (h1 : left ≤ 1048576) (hs : l.length ≤ 9223372036854775807) : ak av 137 [.one (.sl (l.map DJob.ds)), pI left] (rI (max (left - l.length) (-1))) := by
  refine ac ah Tryz.func137 rfl Tryz.call137 Tryz.ntmps137 (congrArg Array.toList Tryz.results137) fun S => ?_; conv => whnf
  repeat' (first | (refine aw0 ?_) | (refine awx ?_; conv => whnf) | (refine AW.i64 (n := _ - _) (by first | omega | (simp only [decide_eq_true_eq, decide_eq_false_iff_not, List.length_map] at *; omega)) (by first | omega | (simp only [decide_eq_true_eq, decide_eq_false_iff_not, List.length_map] at *; omega)) ?_; conv => whnf) | fail | (exact rr) | (refine And.intro rfl ?_; conv => whnf) | (refine AB.mk (fun h => ?_) (fun h => ?_) <;> (conv => whnf)))
  all_goals
    refine cF ?_
    simp only [decide_eq_true_eq, decide_eq_false_iff_not, List.length_map] at *
    omega
set_option maxHeartbeats 2000000 in
theorem D8 (x : DState) (left : Int) (h0 : 0 ≤ left) (h1 : left ≤ 1048576) (hs : DState.small 9223372036854775807 x) : ak av 62 [.agg x.ds, pI left] (rI (max (left - x.cnt) (-1))) := by
  refine ac ah Tryz.func62 rfl Tryz.call62 Tryz.ntmps62 (congrArg Array.toList Tryz.results62) fun S => ?_; conv => whnf
  repeat' (first | (refine aw0 ?_) | (refine awx ?_; conv => whnf) | fail | (refine aa.sz (D7 x.pairs _ (by first | omega | (simp only [decide_eq_true_eq, decide_eq_false_iff_not, List.length_map] at *; omega)) (by first | omega | (simp only [decide_eq_true_eq, decide_eq_false_iff_not, List.length_map] at *; omega)) hs.1) rfl (fun h => ?_) (fun h => ?_) <;> (conv => whnf)) | (refine aa.sz (Fu x.jobs _ (by first | omega | (simp only [decide_eq_true_eq, decide_eq_false_iff_not, List.length_map] at *; omega)) (by first | omega | (simp only [decide_eq_true_eq, decide_eq_false_iff_not, List.length_map] at *; omega)) hs.2) rfl (fun h => ?_) (fun h => ?_) <;> (conv => whnf)) | (exact rr) | (refine And.intro rfl ?_; conv => whnf) | (refine AB.mk (fun h => ?_) (fun h => ?_) <;> (conv => whnf)))
  all_goals
    refine cF ?_
    first
      | omega
      | (simp only [decide_eq_true_eq, decide_eq_false_iff_not, DState.cnt] at * <;> omega)
set_option maxHeartbeats 2000000 in
theorem D9 (x : DStore) (left : Int) (h0 : 0 ≤ left) (h1 : left ≤ 1048576) (hs : DStore.small 9223372036854775807 x) : ak av 15 [.agg x.ds, pI left] (rI (max (left - x.cnt) (-1))) := by
  refine ac ah Tryz.func15 rfl Tryz.call15 Tryz.ntmps15 (congrArg Array.toList Tryz.results15) fun S => ?_; conv => whnf
  repeat' (first | (refine aw0 ?_) | (refine awx ?_; conv => whnf) | fail | (refine aa.sz (vM x.disk _ (by first | omega | (simp only [decide_eq_true_eq, decide_eq_false_iff_not, List.length_map] at *; omega)) (by first | omega | (simp only [decide_eq_true_eq, decide_eq_false_iff_not, List.length_map] at *; omega)) hs.1) rfl (fun h => ?_) (fun h => ?_) <;> (conv => whnf)) | (refine aa.sz (D8 x.state _ (by first | omega | (simp only [decide_eq_true_eq, decide_eq_false_iff_not, List.length_map] at *; omega)) (by first | omega | (simp only [decide_eq_true_eq, decide_eq_false_iff_not, List.length_map] at *; omega)) hs.2) rfl (fun h => ?_) (fun h => ?_) <;> (conv => whnf)) | (exact rr) | (refine And.intro rfl ?_; conv => whnf) | (refine AB.mk (fun h => ?_) (fun h => ?_) <;> (conv => whnf)))
  all_goals
    refine cF ?_
    first
      | omega
      | (simp only [decide_eq_true_eq, decide_eq_false_iff_not, DStore.cnt] at * <;> omega)
theorem Fs (l : (List DDue)) (left : Int) (h0 : 0 ≤ left) (h1 : left ≤ 1048576) (hs : l.length ≤ 9223372036854775807) : ak av 207 [.one (.sl (l.map DDue.ds)), pI left] (rI (max (left - l.length) (-1))) := by
  refine ac ah Tryz.func207 rfl Tryz.call207 Tryz.ntmps207 (congrArg Array.toList Tryz.results207) fun S => ?_; conv => whnf
  repeat' (first | (refine aw0 ?_) | (refine awx ?_; conv => whnf) | (refine AW.i64 (n := _ - _) (by first | omega | (simp only [decide_eq_true_eq, decide_eq_false_iff_not, List.length_map] at *; omega)) (by first | omega | (simp only [decide_eq_true_eq, decide_eq_false_iff_not, List.length_map] at *; omega)) ?_; conv => whnf) | fail | (exact rr) | (refine And.intro rfl ?_; conv => whnf) | (refine AB.mk (fun h => ?_) (fun h => ?_) <;> (conv => whnf)))
  all_goals
    refine cF ?_
    simp only [decide_eq_true_eq, decide_eq_false_iff_not, List.length_map] at *
    omega
set_option maxHeartbeats 2000000 in
theorem Fv (x : DJobs) (left : Int) (h0 : 0 ≤ left) (h1 : left ≤ 1048576) (hs : DJobs.small 9223372036854775807 x) : ak av 138 [.agg x.ds, pI left] (rI (max (left - x.cnt) (-1))) := by
  refine ac ah Tryz.func138 rfl Tryz.call138 Tryz.ntmps138 (congrArg Array.toList Tryz.results138) fun S => ?_; conv => whnf
  repeat' (first | (refine aw0 ?_) | (refine awx ?_; conv => whnf) | fail | (refine aa.sz (Fs x.opens _ (by first | omega | (simp only [decide_eq_true_eq, decide_eq_false_iff_not, List.length_map] at *; omega)) (by first | omega | (simp only [decide_eq_true_eq, decide_eq_false_iff_not, List.length_map] at *; omega)) hs) rfl (fun h => ?_) (fun h => ?_) <;> (conv => whnf)) | (exact rr) | (refine And.intro rfl ?_; conv => whnf) | (refine AB.mk (fun h => ?_) (fun h => ?_) <;> (conv => whnf)))
  all_goals
    refine cF ?_
    first
      | omega
      | (simp only [decide_eq_true_eq, decide_eq_false_iff_not, DJobs.cnt] at * <;> omega)
set_option maxHeartbeats 2000000 in
theorem Fx (x : DView) (left : Int) (h0 : 0 ≤ left) (h1 : left ≤ 1048576) (hs : DView.small 9223372036854775807 x) : ak av 63 [.agg x.ds, pI left] (rI (max (left - x.cnt) (-1))) := by
  refine ac ah Tryz.func63 rfl Tryz.call63 Tryz.ntmps63 (congrArg Array.toList Tryz.results63) fun S => ?_; conv => whnf
  repeat' (first | (refine aw0 ?_) | (refine awx ?_; conv => whnf) | fail | (refine aa.sz (Fv x.jobs _ (by first | omega | (simp only [decide_eq_true_eq, decide_eq_false_iff_not, List.length_map] at *; omega)) (by first | omega | (simp only [decide_eq_true_eq, decide_eq_false_iff_not, List.length_map] at *; omega)) hs) rfl (fun h => ?_) (fun h => ?_) <;> (conv => whnf)) | (exact rr) | (refine And.intro rfl ?_; conv => whnf) | (refine AB.mk (fun h => ?_) (fun h => ?_) <;> (conv => whnf)))
  all_goals
    refine cF ?_
    first
      | omega
      | (simp only [decide_eq_true_eq, decide_eq_false_iff_not, DView.cnt] at * <;> omega)
set_option maxHeartbeats 2000000 in
theorem xD (x : DSched) (left : Int) (h0 : 0 ≤ left) (h1 : left ≤ 1048576) (hs : DSched.small 9223372036854775807 x) : ak av 16 [.agg x.ds, pI left] (rI (max (left - x.cnt) (-1))) := by
  refine ac ah Tryz.func16 rfl Tryz.call16 Tryz.ntmps16 (congrArg Array.toList Tryz.results16) fun S => ?_; conv => whnf
  repeat' (first | (refine aw0 ?_) | (refine awx ?_; conv => whnf) | fail | (refine aa.sz (Fx x.view _ (by first | omega | (simp only [decide_eq_true_eq, decide_eq_false_iff_not, List.length_map] at *; omega)) (by first | omega | (simp only [decide_eq_true_eq, decide_eq_false_iff_not, List.length_map] at *; omega)) hs) rfl (fun h => ?_) (fun h => ?_) <;> (conv => whnf)) | (exact rr) | (refine And.intro rfl ?_; conv => whnf) | (refine AB.mk (fun h => ?_) (fun h => ?_) <;> (conv => whnf)))
  all_goals
    refine cF ?_
    first
      | omega
      | (simp only [decide_eq_true_eq, decide_eq_false_iff_not, DSched.cnt] at * <;> omega)
theorem Ea (l : (List DWant)) (left : Int) (h0 : 0 ≤ left) (h1 : left ≤ 1048576) (hs : l.length ≤ 9223372036854775807) : ak av 64 [.one (.sl (l.map DWant.ds)), pI left] (rI (max (left - l.length) (-1))) := by
  refine ac ah Tryz.func64 rfl Tryz.call64 Tryz.ntmps64 (congrArg Array.toList Tryz.results64) fun S => ?_; conv => whnf
  repeat' (first | (refine aw0 ?_) | (refine awx ?_; conv => whnf) | (refine AW.i64 (n := _ - _) (by first | omega | (simp only [decide_eq_true_eq, decide_eq_false_iff_not, List.length_map] at *; omega)) (by first | omega | (simp only [decide_eq_true_eq, decide_eq_false_iff_not, List.length_map] at *; omega)) ?_; conv => whnf) | fail | (exact rr) | (refine And.intro rfl ?_; conv => whnf) | (refine AB.mk (fun h => ?_) (fun h => ?_) <;> (conv => whnf)))
  all_goals
    refine cF ?_
    simp only [decide_eq_true_eq, decide_eq_false_iff_not, List.length_map] at *
    omega
theorem Ft (l : (List DGot)) (left : Int) (h0 : 0 ≤ left) (h1 : left ≤ 1048576) (hs : l.length ≤ 9223372036854775807) : ak av 65 [.one (.sl (l.map DGot.ds)), pI left] (rI (max (left - l.length) (-1))) := by
  refine ac ah Tryz.func65 rfl Tryz.call65 Tryz.ntmps65 (congrArg Array.toList Tryz.results65) fun S => ?_; conv => whnf
  repeat' (first | (refine aw0 ?_) | (refine awx ?_; conv => whnf) | (refine AW.i64 (n := _ - _) (by first | omega | (simp only [decide_eq_true_eq, decide_eq_false_iff_not, List.length_map] at *; omega)) (by first | omega | (simp only [decide_eq_true_eq, decide_eq_false_iff_not, List.length_map] at *; omega)) ?_; conv => whnf) | fail | (exact rr) | (refine And.intro rfl ?_; conv => whnf) | (refine AB.mk (fun h => ?_) (fun h => ?_) <;> (conv => whnf)))
  all_goals
    refine cF ?_
    simp only [decide_eq_true_eq, decide_eq_false_iff_not, List.length_map] at *
    omega
set_option maxHeartbeats 2000000 in
theorem vL (x : DClient) (left : Int) (h0 : 0 ≤ left) (h1 : left ≤ 1048576) (hs : DClient.small 9223372036854775807 x) : ak av 17 [.agg x.ds, pI left] (rI (max (left - x.cnt) (-1))) := by
  refine ac ah Tryz.func17 rfl Tryz.call17 Tryz.ntmps17 (congrArg Array.toList Tryz.results17) fun S => ?_; conv => whnf
  repeat' (first | (refine aw0 ?_) | (refine awx ?_; conv => whnf) | fail | (refine aa.sz (Ea x.todo _ (by first | omega | (simp only [decide_eq_true_eq, decide_eq_false_iff_not, List.length_map] at *; omega)) (by first | omega | (simp only [decide_eq_true_eq, decide_eq_false_iff_not, List.length_map] at *; omega)) hs.1) rfl (fun h => ?_) (fun h => ?_) <;> (conv => whnf)) | (refine aa.sz (Ft x.gots _ (by first | omega | (simp only [decide_eq_true_eq, decide_eq_false_iff_not, List.length_map] at *; omega)) (by first | omega | (simp only [decide_eq_true_eq, decide_eq_false_iff_not, List.length_map] at *; omega)) hs.2) rfl (fun h => ?_) (fun h => ?_) <;> (conv => whnf)) | (exact rr) | (refine And.intro rfl ?_; conv => whnf) | (refine AB.mk (fun h => ?_) (fun h => ?_) <;> (conv => whnf)))
  all_goals
    refine cF ?_
    first
      | omega
      | (simp only [decide_eq_true_eq, decide_eq_false_iff_not, DClient.cnt] at * <;> omega)
set_option maxHeartbeats 2000000 in
theorem GC (x : DMsg) (left : Int) (h0 : 0 ≤ left) (h1 : left ≤ 1048576) (hs : DMsg.small 9223372036854775807 x) : ak av 139 [.agg x.ds, pI left] (rI (max (left - x.cnt) (-1))) := by
  refine ac ah Tryz.func139 rfl Tryz.call139 Tryz.ntmps139 (congrArg Array.toList Tryz.results139) fun S => ?_; conv => whnf
  repeat' (first | (refine aw0 ?_) | (refine awx ?_; conv => whnf) | fail | (refine aa.sz (ly x.row _ (by first | omega | (simp only [decide_eq_true_eq, decide_eq_false_iff_not, List.length_map] at *; omega)) (by first | omega | (simp only [decide_eq_true_eq, decide_eq_false_iff_not, List.length_map] at *; omega)) hs) rfl (fun h => ?_) (fun h => ?_) <;> (conv => whnf)) | (exact rr) | (refine And.intro rfl ?_; conv => whnf) | (refine AB.mk (fun h => ?_) (fun h => ?_) <;> (conv => whnf)))
  all_goals
    refine cF ?_
    first
      | omega
      | (simp only [decide_eq_true_eq, decide_eq_false_iff_not, DMsg.cnt] at * <;> omega)
theorem Fw (l : (List DMsg)) (left : Int) (h0 : 0 ≤ left) (h1 : left ≤ 1048576) (hs : l.length ≤ 9223372036854775807 ∧ ∀ y ∈ l, DMsg.small 9223372036854775807 y) : ak av 66 [.one (.sl (l.map DMsg.ds)), pI left] (rI (max (left - fG DMsg.cnt l) (-1))) := by
  refine ac ah Tryz.func66 rfl Tryz.call66 Tryz.ntmps66 (congrArg Array.toList Tryz.results66) fun S => ?_; conv => whnf
  have hlen := hs.1
  have hcl := gM DMsg.cnt l
  repeat' (first | (refine aw0 ?_) | (refine awx ?_; conv => whnf) | (refine AW.i64 (n := _ - _) (by first | omega | (simp only [decide_eq_true_eq, decide_eq_false_iff_not, List.length_map] at *; omega)) (by first | omega | (simp only [decide_eq_true_eq, decide_eq_false_iff_not, List.length_map] at *; omega)) ?_; conv => whnf) | fail | (exact rr) | (refine And.intro rfl ?_; conv => whnf) | (refine AB.mk (fun h => ?_) (fun h => ?_) <;> (conv => whnf)))
  · refine cF ?_
    simp only [decide_eq_true_eq, decide_eq_false_iff_not, List.length_map] at *
    omega
  refine AWP.loopS (fun p : Nat × Int => p.1 ≤ l.length ∧ 0 ≤ p.2 ∧ p.2 = left - l.length + (p.1 : Int) - fG DMsg.cnt (l.take p.1)) [1, 4, 5, 12, 13, 14, 15, 16, 17, 18, 19, 20, 21, 22, 23, 24, 25] (fun p => [(1, vI .i64 p.2), (5, vI .i64 (p.1 : Int))]) (fun _ => []) (fun p => l.length - p.1) (0, left - ((l.map DMsg.ds).length : Int)) ⟨by simp, (by first | omega | (simp only [decide_eq_true_eq, decide_eq_false_iff_not, List.length_map] at *; omega)), by simp [fG]⟩ ?_ ai.nil (fun p hR => ?_) <;> (conv => whnf)
  · exact whd
  · obtain ⟨k, v⟩ := p
    obtain ⟨hk, hv, he⟩ := hR
    simp only at hk hv he
    have htk := gm DMsg.cnt l k
    have htl : (l.take k).length = k := by simp; omega
    repeat' (first | (refine aw0 ?_) | (refine awx ?_; conv => whnf) | fail | (refine AIx.mapF (by first | omega | (simp only [decide_eq_true_eq, decide_eq_false_iff_not, List.length_map] at *; omega)) (fun hlt => ?_); conv => whnf) | (refine aa.pure (GC _ _ hv (by first | omega | (simp only [decide_eq_true_eq, decide_eq_false_iff_not, List.length_map] at *; omega)) (hs.2 _ (List.getElem_mem hlt))) rfl ?_; conv => whnf) | (refine AW.i64 (by first | omega | (simp only [decide_eq_true_eq, decide_eq_false_iff_not, List.length_map] at *; omega)) (by first | omega | (simp only [decide_eq_true_eq, decide_eq_false_iff_not, List.length_map] at *; omega)) ?_; conv => whnf) | (exact rr) | (refine And.intro rfl ?_; conv => whnf) | (refine AB.mk (fun h => ?_) (fun h => ?_) <;> (conv => whnf)))
    all_goals first
      | (have hsu := oA DMsg.cnt l k hlt
         have htk := gm DMsg.cnt l (k + 1)
         have htl : (l.take (k + 1)).length = k + 1 := by simp; omega
         simp only [decide_eq_true_eq, decide_eq_false_iff_not, List.length_map] at *
         first
           | (refine cF ?_; omega)
           | (refine aF.mk ⟨(k + 1, max (v - ((DMsg.cnt l[k] : Nat) : Int)) (-1)), ⟨by simp only; omega, by simp only; omega, by simp only; omega⟩, by simp only; omega, ?_, ai.nil⟩; exact hds))
      | (have hkk : k = l.length := (by first | omega | (simp only [decide_eq_true_eq, decide_eq_false_iff_not, List.length_map] at *; omega))
         subst hkk
         refine cF ?_
         rw [List.take_length] at he
         omega)
theorem D6 (l : (List DLink)) (left : Int) (h0 : 0 ≤ left) (h1 : left ≤ 1048576) (hs : l.length ≤ 9223372036854775807) : ak av 67 [.one (.sl (l.map DLink.ds)), pI left] (rI (max (left - l.length) (-1))) := by
  refine ac ah Tryz.func67 rfl Tryz.call67 Tryz.ntmps67 (congrArg Array.toList Tryz.results67) fun S => ?_; conv => whnf
  repeat' (first | (refine aw0 ?_) | (refine awx ?_; conv => whnf) | (refine AW.i64 (n := _ - _) (by first | omega | (simp only [decide_eq_true_eq, decide_eq_false_iff_not, List.length_map] at *; omega)) (by first | omega | (simp only [decide_eq_true_eq, decide_eq_false_iff_not, List.length_map] at *; omega)) ?_; conv => whnf) | fail | (exact rr) | (refine And.intro rfl ?_; conv => whnf) | (refine AB.mk (fun h => ?_) (fun h => ?_) <;> (conv => whnf)))
  all_goals
    refine cF ?_
    simp only [decide_eq_true_eq, decide_eq_false_iff_not, List.length_map] at *
    omega
set_option maxHeartbeats 2000000 in
theorem GD (x : DNet) (left : Int) (h0 : 0 ≤ left) (h1 : left ≤ 1048576) (hs : DNet.small 9223372036854775807 x) : ak av 18 [.agg x.ds, pI left] (rI (max (left - x.cnt) (-1))) := by
  refine ac ah Tryz.func18 rfl Tryz.call18 Tryz.ntmps18 (congrArg Array.toList Tryz.results18) fun S => ?_; conv => whnf
  repeat' (first | (refine aw0 ?_) | (refine awx ?_; conv => whnf) | fail | (refine aa.sz (Fw x.flight _ (by first | omega | (simp only [decide_eq_true_eq, decide_eq_false_iff_not, List.length_map] at *; omega)) (by first | omega | (simp only [decide_eq_true_eq, decide_eq_false_iff_not, List.length_map] at *; omega)) ⟨hs.1, hs.2.1⟩) rfl (fun h => ?_) (fun h => ?_) <;> (conv => whnf)) | (refine aa.sz (D6 x.cuts _ (by first | omega | (simp only [decide_eq_true_eq, decide_eq_false_iff_not, List.length_map] at *; omega)) (by first | omega | (simp only [decide_eq_true_eq, decide_eq_false_iff_not, List.length_map] at *; omega)) hs.2.2) rfl (fun h => ?_) (fun h => ?_) <;> (conv => whnf)) | (exact rr) | (refine And.intro rfl ?_; conv => whnf) | (refine AB.mk (fun h => ?_) (fun h => ?_) <;> (conv => whnf)))
  all_goals
    refine cF ?_
    first
      | omega
      | (simp only [decide_eq_true_eq, decide_eq_false_iff_not, DNet.cnt] at * <;> omega)
theorem D5 (l : (List Bool)) (left : Int) (h0 : 0 ≤ left) (h1 : left ≤ 1048576) (hs : l.length ≤ 9223372036854775807) : ak av 20 [.one (.sl (l.map eB)), pI left] (rI (max (left - l.length) (-1))) := by
  refine ac ah Tryz.func20 rfl Tryz.call20 Tryz.ntmps20 (congrArg Array.toList Tryz.results20) fun S => ?_; conv => whnf
  repeat' (first | (refine aw0 ?_) | (refine awx ?_; conv => whnf) | (refine AW.i64 (n := _ - _) (by first | omega | (simp only [decide_eq_true_eq, decide_eq_false_iff_not, List.length_map] at *; omega)) (by first | omega | (simp only [decide_eq_true_eq, decide_eq_false_iff_not, List.length_map] at *; omega)) ?_; conv => whnf) | fail | (exact rr) | (refine And.intro rfl ?_; conv => whnf) | (refine AB.mk (fun h => ?_) (fun h => ?_) <;> (conv => whnf)))
  all_goals
    refine cF ?_
    simp only [decide_eq_true_eq, decide_eq_false_iff_not, List.length_map] at *
    omega
set_option maxHeartbeats 2000000 in
theorem pb (x : DWorld) (left : Int) (h0 : 0 ≤ left) (h1 : left ≤ 1048576) (hs : DWorld.small 9223372036854775807 x) : ak av 5 [.agg x.ds, pI left] (rI (max (left - x.cnt) (-1))) := by
  refine ac ah Tryz.func5 rfl Tryz.call5 Tryz.ntmps5 (congrArg Array.toList Tryz.results5) fun S => ?_; conv => whnf
  repeat' (first | (refine aw0 ?_) | (refine awx ?_; conv => whnf) | fail | (refine aa.sz (Bc x.log _ (by first | omega | (simp only [decide_eq_true_eq, decide_eq_false_iff_not, List.length_map] at *; omega)) (by first | omega | (simp only [decide_eq_true_eq, decide_eq_false_iff_not, List.length_map] at *; omega)) hs.1) rfl (fun h => ?_) (fun h => ?_) <;> (conv => whnf)) | (refine aa.sz (D9 x.store _ (by first | omega | (simp only [decide_eq_true_eq, decide_eq_false_iff_not, List.length_map] at *; omega)) (by first | omega | (simp only [decide_eq_true_eq, decide_eq_false_iff_not, List.length_map] at *; omega)) hs.2.1) rfl (fun h => ?_) (fun h => ?_) <;> (conv => whnf)) | (refine aa.sz (xD x.left _ (by first | omega | (simp only [decide_eq_true_eq, decide_eq_false_iff_not, List.length_map] at *; omega)) (by first | omega | (simp only [decide_eq_true_eq, decide_eq_false_iff_not, List.length_map] at *; omega)) hs.2.2.1) rfl (fun h => ?_) (fun h => ?_) <;> (conv => whnf)) | (refine aa.sz (xD x.right _ (by first | omega | (simp only [decide_eq_true_eq, decide_eq_false_iff_not, List.length_map] at *; omega)) (by first | omega | (simp only [decide_eq_true_eq, decide_eq_false_iff_not, List.length_map] at *; omega)) hs.2.2.2.1) rfl (fun h => ?_) (fun h => ?_) <;> (conv => whnf)) | (refine aa.sz (vL x.ann _ (by first | omega | (simp only [decide_eq_true_eq, decide_eq_false_iff_not, List.length_map] at *; omega)) (by first | omega | (simp only [decide_eq_true_eq, decide_eq_false_iff_not, List.length_map] at *; omega)) hs.2.2.2.2.1) rfl (fun h => ?_) (fun h => ?_) <;> (conv => whnf)) | (refine aa.sz (vL x.bob _ (by first | omega | (simp only [decide_eq_true_eq, decide_eq_false_iff_not, List.length_map] at *; omega)) (by first | omega | (simp only [decide_eq_true_eq, decide_eq_false_iff_not, List.length_map] at *; omega)) hs.2.2.2.2.2.1) rfl (fun h => ?_) (fun h => ?_) <;> (conv => whnf)) | (refine aa.sz (GD x.net _ (by first | omega | (simp only [decide_eq_true_eq, decide_eq_false_iff_not, List.length_map] at *; omega)) (by first | omega | (simp only [decide_eq_true_eq, decide_eq_false_iff_not, List.length_map] at *; omega)) hs.2.2.2.2.2.2.1) rfl (fun h => ?_) (fun h => ?_) <;> (conv => whnf)) | (refine aa.sz (ly x.clocks _ (by first | omega | (simp only [decide_eq_true_eq, decide_eq_false_iff_not, List.length_map] at *; omega)) (by first | omega | (simp only [decide_eq_true_eq, decide_eq_false_iff_not, List.length_map] at *; omega)) hs.2.2.2.2.2.2.2.1) rfl (fun h => ?_) (fun h => ?_) <;> (conv => whnf)) | (refine aa.sz (D5 x.up _ (by first | omega | (simp only [decide_eq_true_eq, decide_eq_false_iff_not, List.length_map] at *; omega)) (by first | omega | (simp only [decide_eq_true_eq, decide_eq_false_iff_not, List.length_map] at *; omega)) hs.2.2.2.2.2.2.2.2) rfl (fun h => ?_) (fun h => ?_) <;> (conv => whnf)) | (exact rr) | (refine And.intro rfl ?_; conv => whnf) | (refine AB.mk (fun h => ?_) (fun h => ?_) <;> (conv => whnf)))
  all_goals
    refine cF ?_
    first
      | omega
      | (simp only [decide_eq_true_eq, decide_eq_false_iff_not, DWorld.cnt] at * <;> omega)
end Go.Proofs.YtcmknngafflcnaaGreat
