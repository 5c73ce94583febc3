/- MkH -/
import Derived.Test.YtcmknngafflcnaaGreatJ19
import Derived.Test.YtcmknngafflcnaaGreatAwx
set_option linter.unusedVariables false
set_option linter.unusedSimpArgs false
set_option maxRecDepth 100000
namespace Go.Proofs.YtcmknngafflcnaaGreat
open Go.ChangeShapes Go.WideShapes Go.RowKit
theorem fR {α β : Type} {mk : Int → α → α} {cnt : α → Int} (f : α → β) (l : List α) (k0 : Int) {k : Nat} (hk : k < l.length) : ((mkL mk cnt k0 l).map f)[k]? = some (f (mk (k0 + ao cnt (l.take k)) l[k])) := by
 rw [List.getElem?_map, List.getElem?_eq_getElem (by rw [bE]; exact hk), C3 l k0 hk]; rfl
theorem ndL {n : Int} (h : 0 ≤ n) : decide (n < 0) = false := by simp only [decide_eq_false_iff_not]; omega
theorem dl (l : (List Int)) (hs : l.length ≤ 1048576) (k : Int) (h0 : 0 ≤ k) (hk : k + ao cI l ≤ 1000000000000) : ak av 51 [.one (.sl ((mkL mI cI k l).map eI)), pI k] (.val (pI (k + ao cI l))) := by
 have hn9 : l.length ≤ 1048576 := hs
 have hl : (mkL mI cI k l).length = l.length := bE _ _
 have hcn := aO (cnt := cI) dD l
 refine ac ah Tryz.func51 rfl Tryz.call51 Tryz.ntmps51 (congrArg Array.toList Tryz.results51) fun S => ?_; conv => whnf
 repeat' (first | (refine aw0 ?_) | (refine awx ?_; conv => whnf) | fail | (exact rr) | (refine And.intro rfl ?_; conv => whnf) | (refine AB.mk (fun h => ?_) (fun h => ?_) <;> (conv => whnf)))
 refine AWP.loopS (fun p : Nat × Int => p.1 ≤ l.length ∧ p.2 = k + ao cI (l.take p.1)) [1, 4, 5, 6, 7, 8, 9, 10, 11, 12, 13, 14, 15, 16, 17, 18, 19] (fun p => [(1, vI .i64 p.2), (5, vI .i64 (p.1 : Int))]) (fun _ => []) (fun p => l.length - p.1) (0, k) ⟨Nat.zero_le _, by simp [ao]⟩ ?_ ai.nil (fun p hR => ?_) <;> (conv => whnf)
 ·exact whd
 ·obtain ⟨j, q⟩ := p
  obtain ⟨hj, hq⟩ := hR
  simp only at hj hq
  by_cases hlt : j < l.length
  ·have hc1 := hcn (j + 1)
   rw [aB hlt] at hc1
   have hc0 : 0 ≤ ao cI (l.take j) := am dD _
   have hn := dD l[j]
   have hq1 : 0 ≤ q := by omega
   have hq2 : q + cI l[j] ≤ 1000000000000 := by omega
   have he : ((mkL mI cI k l).map eI)[j]? = some (eI (mI q l[j])) := by rw [hq]; exact fR eI l k hlt
   have hc : decide ((j : Int) < (((mkL mI cI k l).map eI).length : Int)) = true := by simp [hl]; omega
   have e9 : (cI l[j] : Int) = 1 := rfl
   have hq3 : q + 1 ≤ 1000000000000 := by omega
   have g0 := neI (q)
   clear hc1 hc0 hcn hn
   repeat' (first | (refine aw0 ?_) | (refine awx ?_; conv => whnf) | fail | (refine AIx.at j _ rfl he ?_; conv => whnf) | (refine AW.i64 (by omega) (by omega) ?_; conv => whnf) | (exact rr) | (refine And.intro rfl ?_; conv => whnf) | (refine AB.mk (fun h => ?_) (fun h => ?_) <;> (conv => whnf)))
   refine aF.mk ⟨(j + 1, q + 1), ⟨hlt, by simp only; rw [aB hlt]; omega⟩, by simp only; omega, ?_, ai.nil⟩
   exact hds
  ·have e : j = l.length := by omega
   subst e
   have hc : decide ((l.length : Int) < (((mkL mI cI k l).map eI).length : Int)) = false := by simp [hl]
   repeat' (first | (refine aw0 ?_) | (refine awx ?_; conv => whnf) | fail | (exact rr) | (refine And.intro rfl ?_; conv => whnf) | (refine AB.mk (fun h => ?_) (fun h => ?_) <;> (conv => whnf)))
   all_goals rw [hq, List.take_length]
theorem pz (l : (List (List Int))) (hs : l.length ≤ 1048576 ∧ ∀ y ∈ l, y.length ≤ 1048576) (k : Int) (h0 : 0 ≤ k) (hk : k + ao aE l ≤ 1000000000000) : ak av 200 [.one (.sl ((mkL dm aE k l).map cG)), pI k] (.val (pI (k + ao aE l))) := by
 have hn9 : l.length ≤ 1048576 := hs.1
 have hl : (mkL dm aE k l).length = l.length := bE _ _
 have hcn := aO (cnt := aE) cS l
 refine ac ah Tryz.func200 rfl Tryz.call200 Tryz.ntmps200 (congrArg Array.toList Tryz.results200) fun S => ?_; conv => whnf
 repeat' (first | (refine aw0 ?_) | (refine awx ?_; conv => whnf) | fail | (exact rr) | (refine And.intro rfl ?_; conv => whnf) | (refine AB.mk (fun h => ?_) (fun h => ?_) <;> (conv => whnf)))
 refine AWP.loopS (fun p : Nat × Int => p.1 ≤ l.length ∧ p.2 = k + ao aE (l.take p.1)) [1, 4, 5, 6, 7, 8, 9, 10, 11, 12, 13, 14, 15, 16, 17, 18, 19] (fun p => [(1, vI .i64 p.2), (5, vI .i64 (p.1 : Int))]) (fun _ => []) (fun p => l.length - p.1) (0, k) ⟨Nat.zero_le _, by simp [ao]⟩ ?_ ai.nil (fun p hR => ?_) <;> (conv => whnf)
 ·exact whd
 ·obtain ⟨j, q⟩ := p
  obtain ⟨hj, hq⟩ := hR
  simp only at hj hq
  by_cases hlt : j < l.length
  ·have hc1 := hcn (j + 1)
   rw [aB hlt] at hc1
   have hc0 : 0 ≤ ao aE (l.take j) := am cS _
   have hn := cS l[j]
   have hq1 : 0 ≤ q := by omega
   have hq2 : q + aE l[j] ≤ 1000000000000 := by omega
   have he : ((mkL dm aE k l).map cG)[j]? = some (cG (dm q l[j])) := by rw [hq]; exact fR cG l k hlt
   have hc : decide ((j : Int) < (((mkL dm aE k l).map cG).length : Int)) = true := by simp [hl]; omega
   have e9 : (aE l[j] : Int) = ao cI l[j] := rfl
   have hi0 := am dD l[j]
   have hq3 : q + ao cI l[j] ≤ 1000000000000 := by omega
   have g0 : decide (q + ao cI l[j] < 0) = false := ndL (by omega)
   clear hc1 hc0 hcn hn
   repeat' (first | (refine aw0 ?_) | (refine awx ?_; conv => whnf) | fail | (refine AIx.at j _ rfl he ?_; conv => whnf) | (refine aa.pure (dl l[j] (hs.2 _ (List.getElem_mem hlt)) (q) (by omega) (by omega)) rfl ?_; conv => whnf) | (refine ae.mk ⟨_, _, dl l[j] (hs.2 _ (List.getElem_mem hlt)) (q) (by omega) (by omega), .inl rfl, ?_⟩; conv => whnf) | (refine AW.i64 (by omega) (by omega) ?_; conv => whnf) | (exact rr) | (refine And.intro rfl ?_; conv => whnf) | (refine AB.mk (fun h => ?_) (fun h => ?_) <;> (conv => whnf)))
   refine aF.mk ⟨(j + 1, q + ao cI l[j]), ⟨hlt, by simp only; rw [aB hlt]; omega⟩, by simp only; omega, ?_, ai.nil⟩
   exact hds
  ·have e : j = l.length := by omega
   subst e
   have hc : decide ((l.length : Int) < (((mkL dm aE k l).map cG).length : Int)) = false := by simp [hl]
   repeat' (first | (refine aw0 ?_) | (refine awx ?_; conv => whnf) | fail | (exact rr) | (refine And.intro rfl ?_; conv => whnf) | (refine AB.mk (fun h => ?_) (fun h => ?_) <;> (conv => whnf)))
   all_goals rw [hq, List.take_length]
theorem qF (l : (List DWrite)) (hs : l.length ≤ 1048576 ∧ ∀ y ∈ l, DWrite.small 1048576 y) (k : Int) (h0 : 0 ≤ k) (hk : k + ao aI l ≤ 1000000000000) : ak av 201 [.one (.sl ((mkL dF aI k l).map DWrite.ds)), pI k] (.val (pI (k + ao aI l))) := by
 have hn9 : l.length ≤ 1048576 := hs.1
 have hl : (mkL dF aI k l).length = l.length := bE _ _
 have hcn := aO (cnt := aI) cR l
 refine ac ah Tryz.func201 rfl Tryz.call201 Tryz.ntmps201 (congrArg Array.toList Tryz.results201) fun S => ?_; conv => whnf
 repeat' (first | (refine aw0 ?_) | (refine awx ?_; conv => whnf) | fail | (exact rr) | (refine And.intro rfl ?_; conv => whnf) | (refine AB.mk (fun h => ?_) (fun h => ?_) <;> (conv => whnf)))
 refine AWP.loopS (fun p : Nat × Int => p.1 ≤ l.length ∧ p.2 = k + ao aI (l.take p.1)) [1, 4, 5, 6, 7, 8, 9, 10, 11, 12, 13, 14, 15, 16, 17, 18, 19, 20, 21, 22, 23, 24, 25, 26, 27, 28, 29] (fun p => [(1, vI .i64 p.2), (5, vI .i64 (p.1 : Int))]) (fun _ => []) (fun p => l.length - p.1) (0, k) ⟨Nat.zero_le _, by simp [ao]⟩ ?_ ai.nil (fun p hR => ?_) <;> (conv => whnf)
 ·exact whd
 ·obtain ⟨j, q⟩ := p
  obtain ⟨hj, hq⟩ := hR
  simp only at hj hq
  by_cases hlt : j < l.length
  ·have hc1 := hcn (j + 1)
   rw [aB hlt] at hc1
   have hc0 : 0 ≤ ao aI (l.take j) := am cR _
   have hn := cR l[j]
   have hq1 : 0 ≤ q := by omega
   have hq2 : q + aI l[j] ≤ 1000000000000 := by omega
   have he : ((mkL dF aI k l).map DWrite.ds)[j]? = some (DWrite.ds (dF q l[j])) := by rw [hq]; exact fR DWrite.ds l k hlt
   have hc : decide ((j : Int) < (((mkL dF aI k l).map DWrite.ds).length : Int)) = true := by simp [hl]; omega
   have e9 : (aI l[j] : Int) = 1 + ao cI l[j].row := rfl
   have hi0 := am dD l[j].row
   have hq3 : q + 1 + ao cI l[j].row ≤ 1000000000000 := by omega
   have g0 := neI (q)
   have g1 : decide (q + 1 + ao cI l[j].row < 0) = false := ndL (by omega)
   clear hc1 hc0 hcn hn
   repeat' (first | (refine aw0 ?_) | (refine awx ?_; conv => whnf) | fail | (refine AIx.at j _ rfl he ?_; conv => whnf) | (refine aa.pure (dl l[j].row (hs.2 _ (List.getElem_mem hlt)) (q + 1) (by omega) (by omega)) rfl ?_; conv => whnf) | (refine ae.mk ⟨_, _, dl l[j].row (hs.2 _ (List.getElem_mem hlt)) (q + 1) (by omega) (by omega), .inl rfl, ?_⟩; conv => whnf) | (refine AW.i64 (by omega) (by omega) ?_; conv => whnf) | (exact rr) | (refine And.intro rfl ?_; conv => whnf) | (refine AB.mk (fun h => ?_) (fun h => ?_) <;> (conv => whnf)))
   refine aF.mk ⟨(j + 1, q + 1 + ao cI l[j].row), ⟨hlt, by simp only; rw [aB hlt]; omega⟩, by simp only; omega, ?_, ai.nil⟩
   exact hds
  ·have e : j = l.length := by omega
   subst e
   have hc : decide ((l.length : Int) < (((mkL dF aI k l).map DWrite.ds).length : Int)) = false := by simp [hl]
   repeat' (first | (refine aw0 ?_) | (refine awx ?_; conv => whnf) | fail | (exact rr) | (refine And.intro rfl ?_; conv => whnf) | (refine AB.mk (fun h => ?_) (fun h => ?_) <;> (conv => whnf)))
   all_goals rw [hq, List.take_length]
theorem iV (l : (List DMark)) (hs : l.length ≤ 1048576) (k : Int) (h0 : 0 ≤ k) (hk : k + ao aD l ≤ 1000000000000) : ak av 123 [.one (.sl ((mkL dW aD k l).map DMark.ds)), pI k] (.val (pI (k + ao aD l))) := by
 have hn9 : l.length ≤ 1048576 := hs
 have hl : (mkL dW aD k l).length = l.length := bE _ _
 have hcn := aO (cnt := aD) ck l
 refine ac ah Tryz.func123 rfl Tryz.call123 Tryz.ntmps123 (congrArg Array.toList Tryz.results123) fun S => ?_; conv => whnf
 repeat' (first | (refine aw0 ?_) | (refine awx ?_; conv => whnf) | fail | (exact rr) | (refine And.intro rfl ?_; conv => whnf) | (refine AB.mk (fun h => ?_) (fun h => ?_) <;> (conv => whnf)))
 refine AWP.loopS (fun p : Nat × Int => p.1 ≤ l.length ∧ p.2 = k + ao aD (l.take p.1)) [1, 4, 5, 6, 7, 8, 9, 10, 11, 12, 13, 14, 15, 16, 17, 18, 19, 20, 21, 22, 23, 24, 25, 26, 27, 28, 29, 30, 31, 32, 33, 34, 35, 36, 37, 38] (fun p => [(1, vI .i64 p.2), (5, vI .i64 (p.1 : Int))]) (fun _ => []) (fun p => l.length - p.1) (0, k) ⟨Nat.zero_le _, by simp [ao]⟩ ?_ ai.nil (fun p hR => ?_) <;> (conv => whnf)
 ·exact whd
 ·obtain ⟨j, q⟩ := p
  obtain ⟨hj, hq⟩ := hR
  simp only at hj hq
  by_cases hlt : j < l.length
  ·have hc1 := hcn (j + 1)
   rw [aB hlt] at hc1
   have hc0 : 0 ≤ ao aD (l.take j) := am ck _
   have hn := ck l[j]
   have hq1 : 0 ≤ q := by omega
   have hq2 : q + aD l[j] ≤ 1000000000000 := by omega
   have he : ((mkL dW aD k l).map DMark.ds)[j]? = some (DMark.ds (dW q l[j])) := by rw [hq]; exact fR DMark.ds l k hlt
   have hc : decide ((j : Int) < (((mkL dW aD k l).map DMark.ds).length : Int)) = true := by simp [hl]; omega
   have e9 : (aD l[j] : Int) = 3 := rfl
   have hq3 : q + 3 ≤ 1000000000000 := by omega
   have g0 := neI (q)
   have g1 := neI (q + 1)
   have g2 := neI (q + 1 + 1)
   clear hc1 hc0 hcn hn
   repeat' (first | (refine aw0 ?_) | (refine awx ?_; conv => whnf) | fail | (refine AIx.at j _ rfl he ?_; conv => whnf) | (refine AW.i64 (by omega) (by omega) ?_; conv => whnf) | (exact rr) | (refine And.intro rfl ?_; conv => whnf) | (refine AB.mk (fun h => ?_) (fun h => ?_) <;> (conv => whnf)))
   refine aF.mk ⟨(j + 1, q + 1 + 1 + 1), ⟨hlt, by simp only; rw [aB hlt]; omega⟩, by simp only; omega, ?_, ai.nil⟩
   exact hds
  ·have e : j = l.length := by omega
   subst e
   have hc : decide ((l.length : Int) < (((mkL dW aD k l).map DMark.ds).length : Int)) = false := by simp [hl]
   repeat' (first | (refine aw0 ?_) | (refine awx ?_; conv => whnf) | fail | (exact rr) | (refine And.intro rfl ?_; conv => whnf) | (refine AB.mk (fun h => ?_) (fun h => ?_) <;> (conv => whnf)))
   all_goals rw [hq, List.take_length]
theorem qE (l : (List DEntry)) (hs : l.length ≤ 1048576) (k : Int) (h0 : 0 ≤ k) (hk : k + ao aK l ≤ 1000000000000) : ak av 199 [.one (.sl ((mkL dE aK k l).map DEntry.ds)), pI k] (.val (pI (k + ao aK l))) := by
 have hn9 : l.length ≤ 1048576 := hs
 have hl : (mkL dE aK k l).length = l.length := bE _ _
 have hcn := aO (cnt := aK) cQ l
 refine ac ah Tryz.func199 rfl Tryz.call199 Tryz.ntmps199 (congrArg Array.toList Tryz.results199) fun S => ?_; conv => whnf
 repeat' (first | (refine aw0 ?_) | (refine awx ?_; conv => whnf) | fail | (exact rr) | (refine And.intro rfl ?_; conv => whnf) | (refine AB.mk (fun h => ?_) (fun h => ?_) <;> (conv => whnf)))
 refine AWP.loopS (fun p : Nat × Int => p.1 ≤ l.length ∧ p.2 = k + ao aK (l.take p.1)) [1, 4, 5, 6, 7, 8, 9, 10, 11, 12, 13, 14, 15, 16, 17, 18, 19, 20, 21, 22, 23, 24, 25, 26, 27, 28, 29, 30, 31, 32, 33, 34, 35, 36, 37, 38, 39, 40, 41, 42, 43, 44, 45, 46, 47, 48, 49, 50, 51, 52, 53, 54, 55, 56, 57, 58, 59, 60, 61, 62, 63, 64, 65, 66, 67, 68, 69, 70, 71, 72, 73, 74, 75, 76, 77, 78, 79, 80, 81, 82, 83, 84, 85, 86, 87, 88, 89, 90, 91, 92, 93, 94, 95, 96, 97] (fun p => [(1, vI .i64 p.2), (5, vI .i64 (p.1 : Int))]) (fun _ => []) (fun p => l.length - p.1) (0, k) ⟨Nat.zero_le _, by simp [ao]⟩ ?_ ai.nil (fun p hR => ?_) <;> (conv => whnf)
 ·exact whd
 ·obtain ⟨j, q⟩ := p
  obtain ⟨hj, hq⟩ := hR
  simp only at hj hq
  by_cases hlt : j < l.length
  ·have hc1 := hcn (j + 1)
   rw [aB hlt] at hc1
   have hc0 : 0 ≤ ao aK (l.take j) := am cQ _
   have hn := cQ l[j]
   have hq1 : 0 ≤ q := by omega
   have hq2 : q + aK l[j] ≤ 1000000000000 := by omega
   have he : ((mkL dE aK k l).map DEntry.ds)[j]? = some (DEntry.ds (dE q l[j])) := by rw [hq]; exact fR DEntry.ds l k hlt
   have hc : decide ((j : Int) < (((mkL dE aK k l).map DEntry.ds).length : Int)) = true := by simp [hl]; omega
   have e9 : (aK l[j] : Int) = 9 := rfl
   have hq3 : q + 9 ≤ 1000000000000 := by omega
   have g0 := neI (q)
   have g1 := neI (q + 1)
   have g2 := neI (q + 1 + 1)
   have g3 := neI (q + 1 + 1 + 1)
   have g4 := neI (q + 1 + 1 + 1 + 1)
   have g5 := neI (q + 1 + 1 + 1 + 1 + 1)
   have g6 := neI (q + 1 + 1 + 1 + 1 + 1 + 1)
   have g7 := neI (q + 1 + 1 + 1 + 1 + 1 + 1 + 1)
   have g8 := neI (q + 1 + 1 + 1 + 1 + 1 + 1 + 1 + 1)
   clear hc1 hc0 hcn hn
   repeat' (first | (refine aw0 ?_) | (refine awx ?_; conv => whnf) | fail | (refine AIx.at j _ rfl he ?_; conv => whnf) | (refine AW.i64 (by omega) (by omega) ?_; conv => whnf) | (exact rr) | (refine And.intro rfl ?_; conv => whnf) | (refine AB.mk (fun h => ?_) (fun h => ?_) <;> (conv => whnf)))
   refine aF.mk ⟨(j + 1, q + 1 + 1 + 1 + 1 + 1 + 1 + 1 + 1 + 1), ⟨hlt, by simp only; rw [aB hlt]; omega⟩, by simp only; omega, ?_, ai.nil⟩
   exact hds
  ·have e : j = l.length := by omega
   subst e
   have hc : decide ((l.length : Int) < (((mkL dE aK k l).map DEntry.ds).length : Int)) = false := by simp [hl]
   repeat' (first | (refine aw0 ?_) | (refine awx ?_; conv => whnf) | fail | (exact rr) | (refine And.intro rfl ?_; conv => whnf) | (refine AB.mk (fun h => ?_) (fun h => ?_) <;> (conv => whnf)))
   all_goals rw [hq, List.take_length]
theorem ue (l : (List DAck)) (hs : l.length ≤ 1048576) (k : Int) (h0 : 0 ≤ k) (hk : k + ao bc l ≤ 1000000000000) : ak av 124 [.one (.sl ((mkL gx bc k l).map DAck.ds)), pI k] (.val (pI (k + ao bc l))) := by
 have hn9 : l.length ≤ 1048576 := hs
 have hl : (mkL gx bc k l).length = l.length := bE _ _
 have hcn := aO (cnt := bc) dQ l
 refine ac ah Tryz.func124 rfl Tryz.call124 Tryz.ntmps124 (congrArg Array.toList Tryz.results124) fun S => ?_; conv => whnf
 repeat' (first | (refine aw0 ?_) | (refine awx ?_; conv => whnf) | fail | (exact rr) | (refine And.intro rfl ?_; conv => whnf) | (refine AB.mk (fun h => ?_) (fun h => ?_) <;> (conv => whnf)))
 refine AWP.loopS (fun p : Nat × Int => p.1 ≤ l.length ∧ p.2 = k + ao bc (l.take p.1)) [1, 4, 5, 6, 7, 8, 9, 10, 11, 12, 13, 14, 15, 16, 17, 18, 19, 20, 21, 22, 23, 24, 25, 26, 27, 28, 29, 30, 31, 32, 33, 34, 35, 36, 37, 38, 39, 40, 41, 42, 43, 44, 45, 46, 47] (fun p => [(1, vI .i64 p.2), (5, vI .i64 (p.1 : Int))]) (fun _ => []) (fun p => l.length - p.1) (0, k) ⟨Nat.zero_le _, by simp [ao]⟩ ?_ ai.nil (fun p hR => ?_) <;> (conv => whnf)
 ·exact whd
 ·obtain ⟨j, q⟩ := p
  obtain ⟨hj, hq⟩ := hR
  simp only at hj hq
  by_cases hlt : j < l.length
  ·have hc1 := hcn (j + 1)
   rw [aB hlt] at hc1
   have hc0 : 0 ≤ ao bc (l.take j) := am dQ _
   have hn := dQ l[j]
   have hq1 : 0 ≤ q := by omega
   have hq2 : q + bc l[j] ≤ 1000000000000 := by omega
   have he : ((mkL gx bc k l).map DAck.ds)[j]? = some (DAck.ds (gx q l[j])) := by rw [hq]; exact fR DAck.ds l k hlt
   have hc : decide ((j : Int) < (((mkL gx bc k l).map DAck.ds).length : Int)) = true := by simp [hl]; omega
   have e9 : (bc l[j] : Int) = 4 := rfl
   have hq3 : q + 4 ≤ 1000000000000 := by omega
   have g0 := neI (q)
   have g1 := neI (q + 1)
   have g2 := neI (q + 1 + 1)
   have g3 := neI (q + 1 + 1 + 1)
   clear hc1 hc0 hcn hn
   repeat' (first | (refine aw0 ?_) | (refine awx ?_; conv => whnf) | fail | (refine AIx.at j _ rfl he ?_; conv => whnf) | (refine AW.i64 (by omega) (by omega) ?_; conv => whnf) | (exact rr) | (refine And.intro rfl ?_; conv => whnf) | (refine AB.mk (fun h => ?_) (fun h => ?_) <;> (conv => whnf)))
   refine aF.mk ⟨(j + 1, q + 1 + 1 + 1 + 1), ⟨hlt, by simp only; rw [aB hlt]; omega⟩, by simp only; omega, ?_, ai.nil⟩
   exact hds
  ·have e : j = l.length := by omega
   subst e
   have hc : decide ((l.length : Int) < (((mkL gx bc k l).map DAck.ds).length : Int)) = false := by simp [hl]
   repeat' (first | (refine aw0 ?_) | (refine awx ?_; conv => whnf) | fail | (exact rr) | (refine And.intro rfl ?_; conv => whnf) | (refine AB.mk (fun h => ?_) (fun h => ?_) <;> (conv => whnf)))
   all_goals rw [hq, List.take_length]
theorem r9 (l : (List DPair)) (hs : l.length ≤ 1048576) (k : Int) (h0 : 0 ≤ k) (hk : k + ao aM l ≤ 1000000000000) : ak av 202 [.one (.sl ((mkL eq aM k l).map DPair.ds)), pI k] (.val (pI (k + ao aM l))) := by
 have hn9 : l.length ≤ 1048576 := hs
 have hl : (mkL eq aM k l).length = l.length := bE _ _
 have hcn := aO (cnt := aM) dg l
 refine ac ah Tryz.func202 rfl Tryz.call202 Tryz.ntmps202 (congrArg Array.toList Tryz.results202) fun S => ?_; conv => whnf
 repeat' (first | (refine aw0 ?_) | (refine awx ?_; conv => whnf) | fail | (exact rr) | (refine And.intro rfl ?_; conv => whnf) | (refine AB.mk (fun h => ?_) (fun h => ?_) <;> (conv => whnf)))
 refine AWP.loopS (fun p : Nat × Int => p.1 ≤ l.length ∧ p.2 = k + ao aM (l.take p.1)) [1, 4, 5, 6, 7, 8, 9, 10, 11, 12, 13, 14, 15, 16, 17, 18, 19, 20, 21, 22, 23, 24, 25, 26, 27, 28, 29] (fun p => [(1, vI .i64 p.2), (5, vI .i64 (p.1 : Int))]) (fun _ => []) (fun p => l.length - p.1) (0, k) ⟨Nat.zero_le _, by simp [ao]⟩ ?_ ai.nil (fun p hR => ?_) <;> (conv => whnf)
 ·exact whd
 ·obtain ⟨j, q⟩ := p
  obtain ⟨hj, hq⟩ := hR
  simp only at hj hq
  by_cases hlt : j < l.length
  ·have hc1 := hcn (j + 1)
   rw [aB hlt] at hc1
   have hc0 : 0 ≤ ao aM (l.take j) := am dg _
   have hn := dg l[j]
   have hq1 : 0 ≤ q := by omega
   have hq2 : q + aM l[j] ≤ 1000000000000 := by omega
   have he : ((mkL eq aM k l).map DPair.ds)[j]? = some (DPair.ds (eq q l[j])) := by rw [hq]; exact fR DPair.ds l k hlt
   have hc : decide ((j : Int) < (((mkL eq aM k l).map DPair.ds).length : Int)) = true := by simp [hl]; omega
   have e9 : (aM l[j] : Int) = 2 := rfl
   have hq3 : q + 2 ≤ 1000000000000 := by omega
   have g0 := neI (q)
   have g1 := neI (q + 1)
   clear hc1 hc0 hcn hn
   repeat' (first | (refine aw0 ?_) | (refine awx ?_; conv => whnf) | fail | (refine AIx.at j _ rfl he ?_; conv => whnf) | (refine AW.i64 (by omega) (by omega) ?_; conv => whnf) | (exact rr) | (refine And.intro rfl ?_; conv => whnf) | (refine AB.mk (fun h => ?_) (fun h => ?_) <;> (conv => whnf)))
   refine aF.mk ⟨(j + 1, q + 1 + 1), ⟨hlt, by simp only; rw [aB hlt]; omega⟩, by simp only; omega, ?_, ai.nil⟩
   exact hds
  ·have e : j = l.length := by omega
   subst e
   have hc : decide ((l.length : Int) < (((mkL eq aM k l).map DPair.ds).length : Int)) = false := by simp [hl]
   repeat' (first | (refine aw0 ?_) | (refine awx ?_; conv => whnf) | fail | (exact rr) | (refine And.intro rfl ?_; conv => whnf) | (refine AB.mk (fun h => ?_) (fun h => ?_) <;> (conv => whnf)))
   all_goals rw [hq, List.take_length]
theorem ui (l : (List DJob)) (hs : l.length ≤ 1048576) (k : Int) (h0 : 0 ≤ k) (hk : k + ao bf l ≤ 1000000000000) : ak av 203 [.one (.sl ((mkL gA bf k l).map DJob.ds)), pI k] (.val (pI (k + ao bf l))) := by
 have hn9 : l.length ≤ 1048576 := hs
 have hl : (mkL gA bf k l).length = l.length := bE _ _
 have hcn := aO (cnt := bf) dT l
 refine ac ah Tryz.func203 rfl Tryz.call203 Tryz.ntmps203 (congrArg Array.toList Tryz.results203) fun S => ?_; conv => whnf
 repeat' (first | (refine aw0 ?_) | (refine awx ?_; conv => whnf) | fail | (exact rr) | (refine And.intro rfl ?_; conv => whnf) | (refine AB.mk (fun h => ?_) (fun h => ?_) <;> (conv => whnf)))
 refine AWP.loopS (fun p : Nat × Int => p.1 ≤ l.length ∧ p.2 = k + ao bf (l.take p.1)) [1, 4, 5, 6, 7, 8, 9, 10, 11, 12, 13, 14, 15, 16, 17, 18, 19, 20, 21, 22, 23, 24, 25, 26, 27, 28, 29, 30, 31, 32, 33, 34, 35, 36, 37, 38, 39, 40, 41, 42, 43, 44, 45, 46, 47, 48, 49, 50, 51, 52, 53, 54, 55, 56] (fun p => [(1, vI .i64 p.2), (5, vI .i64 (p.1 : Int))]) (fun _ => []) (fun p => l.length - p.1) (0, k) ⟨Nat.zero_le _, by simp [ao]⟩ ?_ ai.nil (fun p hR => ?_) <;> (conv => whnf)
 ·exact whd
 ·obtain ⟨j, q⟩ := p
  obtain ⟨hj, hq⟩ := hR
  simp only at hj hq
  by_cases hlt : j < l.length
  ·have hc1 := hcn (j + 1)
   rw [aB hlt] at hc1
   have hc0 : 0 ≤ ao bf (l.take j) := am dT _
   have hn := dT l[j]
   have hq1 : 0 ≤ q := by omega
   have hq2 : q + bf l[j] ≤ 1000000000000 := by omega
   have he : ((mkL gA bf k l).map DJob.ds)[j]? = some (DJob.ds (gA q l[j])) := by rw [hq]; exact fR DJob.ds l k hlt
   have hc : decide ((j : Int) < (((mkL gA bf k l).map DJob.ds).length : Int)) = true := by simp [hl]; omega
   have e9 : (bf l[j] : Int) = 5 := rfl
   have hq3 : q + 5 ≤ 1000000000000 := by omega
   have g0 := neI (q)
   have g1 := neI (q + 1)
   have g2 := neI (q + 1 + 1)
   have g3 := neI (q + 1 + 1 + 1)
   have g4 := neI (q + 1 + 1 + 1 + 1)
   clear hc1 hc0 hcn hn
   repeat' (first | (refine aw0 ?_) | (refine awx ?_; conv => whnf) | fail | (refine AIx.at j _ rfl he ?_; conv => whnf) | (refine AW.i64 (by omega) (by omega) ?_; conv => whnf) | (exact rr) | (refine And.intro rfl ?_; conv => whnf) | (refine AB.mk (fun h => ?_) (fun h => ?_) <;> (conv => whnf)))
   refine aF.mk ⟨(j + 1, q + 1 + 1 + 1 + 1 + 1), ⟨hlt, by simp only; rw [aB hlt]; omega⟩, by simp only; omega, ?_, ai.nil⟩
   exact hds
  ·have e : j = l.length := by omega
   subst e
   have hc : decide ((l.length : Int) < (((mkL gA bf k l).map DJob.ds).length : Int)) = false := by simp [hl]
   repeat' (first | (refine aw0 ?_) | (refine awx ?_; conv => whnf) | fail | (exact rr) | (refine And.intro rfl ?_; conv => whnf) | (refine AB.mk (fun h => ?_) (fun h => ?_) <;> (conv => whnf)))
   all_goals rw [hq, List.take_length]
theorem ug (l : (List DDue)) (hs : l.length ≤ 1048576) (k : Int) (h0 : 0 ≤ k) (hk : k + ao bd l ≤ 1000000000000) : ak av 263 [.one (.sl ((mkL gy bd k l).map DDue.ds)), pI k] (.val (pI (k + ao bd l))) := by
 have hn9 : l.length ≤ 1048576 := hs
 have hl : (mkL gy bd k l).length = l.length := bE _ _
 have hcn := aO (cnt := bd) dR l
 refine ac ah Tryz.func263 rfl Tryz.call263 Tryz.ntmps263 (congrArg Array.toList Tryz.results263) fun S => ?_; conv => whnf
 repeat' (first | (refine aw0 ?_) | (refine awx ?_; conv => whnf) | fail | (exact rr) | (refine And.intro rfl ?_; conv => whnf) | (refine AB.mk (fun h => ?_) (fun h => ?_) <;> (conv => whnf)))
 refine AWP.loopS (fun p : Nat × Int => p.1 ≤ l.length ∧ p.2 = k + ao bd (l.take p.1)) [1, 4, 5, 6, 7, 8, 9, 10, 11, 12, 13, 14, 15, 16, 17, 18, 19, 20, 21, 22, 23, 24, 25, 26, 27, 28, 29] (fun p => [(1, vI .i64 p.2), (5, vI .i64 (p.1 : Int))]) (fun _ => []) (fun p => l.length - p.1) (0, k) ⟨Nat.zero_le _, by simp [ao]⟩ ?_ ai.nil (fun p hR => ?_) <;> (conv => whnf)
 ·exact whd
 ·obtain ⟨j, q⟩ := p
  obtain ⟨hj, hq⟩ := hR
  simp only at hj hq
  by_cases hlt : j < l.length
  ·have hc1 := hcn (j + 1)
   rw [aB hlt] at hc1
   have hc0 : 0 ≤ ao bd (l.take j) := am dR _
   have hn := dR l[j]
   have hq1 : 0 ≤ q := by omega
   have hq2 : q + bd l[j] ≤ 1000000000000 := by omega
   have he : ((mkL gy bd k l).map DDue.ds)[j]? = some (DDue.ds (gy q l[j])) := by rw [hq]; exact fR DDue.ds l k hlt
   have hc : decide ((j : Int) < (((mkL gy bd k l).map DDue.ds).length : Int)) = true := by simp [hl]; omega
   have e9 : (bd l[j] : Int) = 2 := rfl
   have hq3 : q + 2 ≤ 1000000000000 := by omega
   have g0 := neI (q)
   have g1 := neI (q + 1)
   clear hc1 hc0 hcn hn
   repeat' (first | (refine aw0 ?_) | (refine awx ?_; conv => whnf) | fail | (refine AIx.at j _ rfl he ?_; conv => whnf) | (refine AW.i64 (by omega) (by omega) ?_; conv => whnf) | (exact rr) | (refine And.intro rfl ?_; conv => whnf) | (refine AB.mk (fun h => ?_) (fun h => ?_) <;> (conv => whnf)))
   refine aF.mk ⟨(j + 1, q + 1 + 1), ⟨hlt, by simp only; rw [aB hlt]; omega⟩, by simp only; omega, ?_, ai.nil⟩
   exact hds
  ·have e : j = l.length := by omega
   subst e
   have hc : decide ((l.length : Int) < (((mkL gy bd k l).map DDue.ds).length : Int)) = false := by simp [hl]
   repeat' (first | (refine aw0 ?_) | (refine awx ?_; conv => whnf) | fail | (exact rr) | (refine And.intro rfl ?_; conv => whnf) | (refine AB.mk (fun h => ?_) (fun h => ?_) <;> (conv => whnf)))
   all_goals rw [hq, List.take_length]
theorem se (l : (List DWant)) (hs : l.length ≤ 1048576) (k : Int) (h0 : 0 ≤ k) (hk : k + ao aN l ≤ 1000000000000) : ak av 128 [.one (.sl ((mkL er aN k l).map DWant.ds)), pI k] (.val (pI (k + ao aN l))) := by
 have hn9 : l.length ≤ 1048576 := hs
 have hl : (mkL er aN k l).length = l.length := bE _ _
 have hcn := aO (cnt := aN) dh l
 refine ac ah Tryz.func128 rfl Tryz.call128 Tryz.ntmps128 (congrArg Array.toList Tryz.results128) fun S => ?_; conv => whnf
 repeat' (first | (refine aw0 ?_) | (refine awx ?_; conv => whnf) | fail | (exact rr) | (refine And.intro rfl ?_; conv => whnf) | (refine AB.mk (fun h => ?_) (fun h => ?_) <;> (conv => whnf)))
 refine AWP.loopS (fun p : Nat × Int => p.1 ≤ l.length ∧ p.2 = k + ao aN (l.take p.1)) [1, 4, 5, 6, 7, 8, 9, 10, 11, 12, 13, 14, 15, 16, 17, 18, 19, 20, 21, 22, 23, 24, 25, 26, 27, 28, 29, 30, 31, 32, 33, 34, 35, 36, 37, 38, 39, 40, 41, 42, 43, 44, 45, 46, 47, 48, 49, 50, 51, 52, 53, 54, 55, 56, 57, 58, 59, 60, 61, 62, 63, 64, 65, 66, 67, 68, 69, 70, 71, 72, 73, 74, 75, 76, 77, 78, 79] (fun p => [(1, vI .i64 p.2), (5, vI .i64 (p.1 : Int))]) (fun _ => []) (fun p => l.length - p.1) (0, k) ⟨Nat.zero_le _, by simp [ao]⟩ ?_ ai.nil (fun p hR => ?_) <;> (conv => whnf)
 ·exact whd
 ·obtain ⟨j, q⟩ := p
  obtain ⟨hj, hq⟩ := hR
  simp only at hj hq
  by_cases hlt : j < l.length
  ·have hc1 := hcn (j + 1)
   rw [aB hlt] at hc1
   have hc0 : 0 ≤ ao aN (l.take j) := am dh _
   have hn := dh l[j]
   have hq1 : 0 ≤ q := by omega
   have hq2 : q + aN l[j] ≤ 1000000000000 := by omega
   have he : ((mkL er aN k l).map DWant.ds)[j]? = some (DWant.ds (er q l[j])) := by rw [hq]; exact fR DWant.ds l k hlt
   have hc : decide ((j : Int) < (((mkL er aN k l).map DWant.ds).length : Int)) = true := by simp [hl]; omega
   have e9 : (aN l[j] : Int) = 7 := rfl
   have hq3 : q + 7 ≤ 1000000000000 := by omega
   have g0 := neI (q)
   have g1 := neI (q + 1)
   have g2 := neI (q + 1 + 1)
   have g3 := neI (q + 1 + 1 + 1)
   have g4 := neI (q + 1 + 1 + 1 + 1)
   have g5 := neI (q + 1 + 1 + 1 + 1 + 1)
   have g6 := neI (q + 1 + 1 + 1 + 1 + 1 + 1)
   clear hc1 hc0 hcn hn
   repeat' (first | (refine aw0 ?_) | (refine awx ?_; conv => whnf) | fail | (refine AIx.at j _ rfl he ?_; conv => whnf) | (refine AW.i64 (by omega) (by omega) ?_; conv => whnf) | (exact rr) | (refine And.intro rfl ?_; conv => whnf) | (refine AB.mk (fun h => ?_) (fun h => ?_) <;> (conv => whnf)))
   refine aF.mk ⟨(j + 1, q + 1 + 1 + 1 + 1 + 1 + 1 + 1), ⟨hlt, by simp only; rw [aB hlt]; omega⟩, by simp only; omega, ?_, ai.nil⟩
   exact hds
  ·have e : j = l.length := by omega
   subst e
   have hc : decide ((l.length : Int) < (((mkL er aN k l).map DWant.ds).length : Int)) = false := by simp [hl]
   repeat' (first | (refine aw0 ?_) | (refine awx ?_; conv => whnf) | fail | (exact rr) | (refine And.intro rfl ?_; conv => whnf) | (refine AB.mk (fun h => ?_) (fun h => ?_) <;> (conv => whnf)))
   all_goals rw [hq, List.take_length]
theorem uh (l : (List DGot)) (hs : l.length ≤ 1048576) (k : Int) (h0 : 0 ≤ k) (hk : k + ao be l ≤ 1000000000000) : ak av 129 [.one (.sl ((mkL gz be k l).map DGot.ds)), pI k] (.val (pI (k + ao be l))) := by
 have hn9 : l.length ≤ 1048576 := hs
 have hl : (mkL gz be k l).length = l.length := bE _ _
 have hcn := aO (cnt := be) dS l
 refine ac ah Tryz.func129 rfl Tryz.call129 Tryz.ntmps129 (congrArg Array.toList Tryz.results129) fun S => ?_; conv => whnf
 repeat' (first | (refine aw0 ?_) | (refine awx ?_; conv => whnf) | fail | (exact rr) | (refine And.intro rfl ?_; conv => whnf) | (refine AB.mk (fun h => ?_) (fun h => ?_) <;> (conv => whnf)))
 refine AWP.loopS (fun p : Nat × Int => p.1 ≤ l.length ∧ p.2 = k + ao be (l.take p.1)) [1, 4, 5, 6, 7, 8, 9, 10, 11, 12, 13, 14, 15, 16, 17, 18, 19, 20, 21, 22, 23, 24, 25, 26, 27, 28, 29, 30, 31, 32, 33, 34, 35, 36, 37, 38, 39, 40, 41, 42, 43, 44, 45, 46, 47] (fun p => [(1, vI .i64 p.2), (5, vI .i64 (p.1 : Int))]) (fun _ => []) (fun p => l.length - p.1) (0, k) ⟨Nat.zero_le _, by simp [ao]⟩ ?_ ai.nil (fun p hR => ?_) <;> (conv => whnf)
 ·exact whd
 ·obtain ⟨j, q⟩ := p
  obtain ⟨hj, hq⟩ := hR
  simp only at hj hq
  by_cases hlt : j < l.length
  ·have hc1 := hcn (j + 1)
   rw [aB hlt] at hc1
   have hc0 : 0 ≤ ao be (l.take j) := am dS _
   have hn := dS l[j]
   have hq1 : 0 ≤ q := by omega
   have hq2 : q + be l[j] ≤ 1000000000000 := by omega
   have he : ((mkL gz be k l).map DGot.ds)[j]? = some (DGot.ds (gz q l[j])) := by rw [hq]; exact fR DGot.ds l k hlt
   have hc : decide ((j : Int) < (((mkL gz be k l).map DGot.ds).length : Int)) = true := by simp [hl]; omega
   have e9 : (be l[j] : Int) = 4 := rfl
   have hq3 : q + 4 ≤ 1000000000000 := by omega
   have g0 := neI (q)
   have g1 := neI (q + 1)
   have g2 := neI (q + 1 + 1)
   have g3 := neI (q + 1 + 1 + 1)
   clear hc1 hc0 hcn hn
   repeat' (first | (refine aw0 ?_) | (refine awx ?_; conv => whnf) | fail | (refine AIx.at j _ rfl he ?_; conv => whnf) | (refine AW.i64 (by omega) (by omega) ?_; conv => whnf) | (exact rr) | (refine And.intro rfl ?_; conv => whnf) | (refine AB.mk (fun h => ?_) (fun h => ?_) <;> (conv => whnf)))
   refine aF.mk ⟨(j + 1, q + 1 + 1 + 1 + 1), ⟨hlt, by simp only; rw [aB hlt]; omega⟩, by simp only; omega, ?_, ai.nil⟩
   exact hds
  ·have e : j = l.length := by omega
   subst e
   have hc : decide ((l.length : Int) < (((mkL gz be k l).map DGot.ds).length : Int)) = false := by simp [hl]
   repeat' (first | (refine aw0 ?_) | (refine awx ?_; conv => whnf) | fail | (exact rr) | (refine And.intro rfl ?_; conv => whnf) | (refine AB.mk (fun h => ?_) (fun h => ?_) <;> (conv => whnf)))
   all_goals rw [hq, List.take_length]
theorem uk (l : (List DMsg)) (hs : l.length ≤ 1048576 ∧ ∀ y ∈ l, DMsg.small 1048576 y) (k : Int) (h0 : 0 ≤ k) (hk : k + ao aV l ≤ 1000000000000) : ak av 130 [.one (.sl ((mkL fQ aV k l).map DMsg.ds)), pI k] (.val (pI (k + ao aV l))) := by
 have hn9 : l.length ≤ 1048576 := hs.1
 have hl : (mkL fQ aV k l).length = l.length := bE _ _
 have hcn := aO (cnt := aV) dU l
 refine ac ah Tryz.func130 rfl Tryz.call130 Tryz.ntmps130 (congrArg Array.toList Tryz.results130) fun S => ?_; conv => whnf
 repeat' (first | (refine aw0 ?_) | (refine awx ?_; conv => whnf) | fail | (exact rr) | (refine And.intro rfl ?_; conv => whnf) | (refine AB.mk (fun h => ?_) (fun h => ?_) <;> (conv => whnf)))
 refine AWP.loopS (fun p : Nat × Int => p.1 ≤ l.length ∧ p.2 = k + ao aV (l.take p.1)) [1, 4, 5, 6, 7, 8, 9, 10, 11, 12, 13, 14, 15, 16, 17, 18, 19, 20, 21, 22, 23, 24, 25, 26, 27, 28, 29, 30, 31, 32, 33, 34, 35, 36, 37, 38] (fun p => [(1, vI .i64 p.2), (5, vI .i64 (p.1 : Int))]) (fun _ => []) (fun p => l.length - p.1) (0, k) ⟨Nat.zero_le _, by simp [ao]⟩ ?_ ai.nil (fun p hR => ?_) <;> (conv => whnf)
 ·exact whd
 ·obtain ⟨j, q⟩ := p
  obtain ⟨hj, hq⟩ := hR
  simp only at hj hq
  by_cases hlt : j < l.length
  ·have hc1 := hcn (j + 1)
   rw [aB hlt] at hc1
   have hc0 : 0 ≤ ao aV (l.take j) := am dU _
   have hn := dU l[j]
   have hq1 : 0 ≤ q := by omega
   have hq2 : q + aV l[j] ≤ 1000000000000 := by omega
   have he : ((mkL fQ aV k l).map DMsg.ds)[j]? = some (DMsg.ds (fQ q l[j])) := by rw [hq]; exact fR DMsg.ds l k hlt
   have hc : decide ((j : Int) < (((mkL fQ aV k l).map DMsg.ds).length : Int)) = true := by simp [hl]; omega
   have e9 : (aV l[j] : Int) = 2 + ao cI l[j].row := rfl
   have hi0 := am dD l[j].row
   have hq3 : q + 2 + ao cI l[j].row ≤ 1000000000000 := by omega
   have g0 := neI (q)
   have g1 := neI (q + 1)
   have g2 : decide (q + 1 + 1 + ao cI l[j].row < 0) = false := ndL (by omega)
   clear hc1 hc0 hcn hn
   repeat' (first | (refine aw0 ?_) | (refine awx ?_; conv => whnf) | fail | (refine AIx.at j _ rfl he ?_; conv => whnf) | (refine aa.pure (dl l[j].row (hs.2 _ (List.getElem_mem hlt)) (q + 1 + 1) (by omega) (by omega)) rfl ?_; conv => whnf) | (refine ae.mk ⟨_, _, dl l[j].row (hs.2 _ (List.getElem_mem hlt)) (q + 1 + 1) (by omega) (by omega), .inl rfl, ?_⟩; conv => whnf) | (refine AW.i64 (by omega) (by omega) ?_; conv => whnf) | (exact rr) | (refine And.intro rfl ?_; conv => whnf) | (refine AB.mk (fun h => ?_) (fun h => ?_) <;> (conv => whnf)))
   refine aF.mk ⟨(j + 1, q + 1 + 1 + ao cI l[j].row), ⟨hlt, by simp only; rw [aB hlt]; omega⟩, by simp only; omega, ?_, ai.nil⟩
   exact hds
  ·have e : j = l.length := by omega
   subst e
   have hc : decide ((l.length : Int) < (((mkL fQ aV k l).map DMsg.ds).length : Int)) = false := by simp [hl]
   repeat' (first | (refine aw0 ?_) | (refine awx ?_; conv => whnf) | fail | (exact rr) | (refine And.intro rfl ?_; conv => whnf) | (refine AB.mk (fun h => ?_) (fun h => ?_) <;> (conv => whnf)))
   all_goals rw [hq, List.take_length]
theorem r8 (l : (List DLink)) (hs : l.length ≤ 1048576) (k : Int) (h0 : 0 ≤ k) (hk : k + ao aU l ≤ 1000000000000) : ak av 131 [.one (.sl ((mkL eM aU k l).map DLink.ds)), pI k] (.val (pI (k + ao aU l))) := by
 have hn9 : l.length ≤ 1048576 := hs
 have hl : (mkL eM aU k l).length = l.length := bE _ _
 have hcn := aO (cnt := aU) de l
 refine ac ah Tryz.func131 rfl Tryz.call131 Tryz.ntmps131 (congrArg Array.toList Tryz.results131) fun S => ?_; conv => whnf
 repeat' (first | (refine aw0 ?_) | (refine awx ?_; conv => whnf) | fail | (exact rr) | (refine And.intro rfl ?_; conv => whnf) | (refine AB.mk (fun h => ?_) (fun h => ?_) <;> (conv => whnf)))
 refine AWP.loopS (fun p : Nat × Int => p.1 ≤ l.length ∧ p.2 = k + ao aU (l.take p.1)) [1, 4, 5, 6, 7, 8, 9, 10, 11, 12, 13, 14, 15, 16, 17, 18, 19, 20, 21, 22, 23, 24, 25, 26, 27, 28, 29] (fun p => [(1, vI .i64 p.2), (5, vI .i64 (p.1 : Int))]) (fun _ => []) (fun p => l.length - p.1) (0, k) ⟨Nat.zero_le _, by simp [ao]⟩ ?_ ai.nil (fun p hR => ?_) <;> (conv => whnf)
 ·exact whd
 ·obtain ⟨j, q⟩ := p
  obtain ⟨hj, hq⟩ := hR
  simp only at hj hq
  by_cases hlt : j < l.length
  ·have hc1 := hcn (j + 1)
   rw [aB hlt] at hc1
   have hc0 : 0 ≤ ao aU (l.take j) := am de _
   have hn := de l[j]
   have hq1 : 0 ≤ q := by omega
   have hq2 : q + aU l[j] ≤ 1000000000000 := by omega
   have he : ((mkL eM aU k l).map DLink.ds)[j]? = some (DLink.ds (eM q l[j])) := by rw [hq]; exact fR DLink.ds l k hlt
   have hc : decide ((j : Int) < (((mkL eM aU k l).map DLink.ds).length : Int)) = true := by simp [hl]; omega
   have e9 : (aU l[j] : Int) = 2 := rfl
   have hq3 : q + 2 ≤ 1000000000000 := by omega
   have g0 := neI (q)
   have g1 := neI (q + 1)
   clear hc1 hc0 hcn hn
   repeat' (first | (refine aw0 ?_) | (refine awx ?_; conv => whnf) | fail | (refine AIx.at j _ rfl he ?_; conv => whnf) | (refine AW.i64 (by omega) (by omega) ?_; conv => whnf) | (exact rr) | (refine And.intro rfl ?_; conv => whnf) | (refine AB.mk (fun h => ?_) (fun h => ?_) <;> (conv => whnf)))
   refine aF.mk ⟨(j + 1, q + 1 + 1), ⟨hlt, by simp only; rw [aB hlt]; omega⟩, by simp only; omega, ?_, ai.nil⟩
   exact hds
  ·have e : j = l.length := by omega
   subst e
   have hc : decide ((l.length : Int) < (((mkL eM aU k l).map DLink.ds).length : Int)) = false := by simp [hl]
   repeat' (first | (refine aw0 ?_) | (refine awx ?_; conv => whnf) | fail | (exact rr) | (refine And.intro rfl ?_; conv => whnf) | (refine AB.mk (fun h => ?_) (fun h => ?_) <;> (conv => whnf)))
   all_goals rw [hq, List.take_length]
theorem r7 (l : (List Bool)) (hs : l.length ≤ 1048576) (k : Int) (h0 : 0 ≤ k) (hk : k + ao cI l ≤ 1000000000000) : ak av 52 [.one (.sl ((mkL mB cI k l).map eB)), pI k] (.val (pI (k + ao cI l))) := by
 have hn9 : l.length ≤ 1048576 := hs
 have hl : (mkL mB cI k l).length = l.length := bE _ _
 have hcn := aO (cnt := cI) dD l
 refine ac ah Tryz.func52 rfl Tryz.call52 Tryz.ntmps52 (congrArg Array.toList Tryz.results52) fun S => ?_; conv => whnf
 repeat' (first | (refine aw0 ?_) | (refine awx ?_; conv => whnf) | fail | (exact rr) | (refine And.intro rfl ?_; conv => whnf) | (refine AB.mk (fun h => ?_) (fun h => ?_) <;> (conv => whnf)))
 refine AWP.loopS (fun p : Nat × Int => p.1 ≤ l.length ∧ p.2 = k + ao cI (l.take p.1)) [1, 4, 5, 6, 7, 8, 9, 10, 11, 12, 13, 14, 15, 16, 17, 18, 19, 20, 21] (fun p => [(1, vI .i64 p.2), (5, vI .i64 (p.1 : Int))]) (fun _ => []) (fun p => l.length - p.1) (0, k) ⟨Nat.zero_le _, by simp [ao]⟩ ?_ ai.nil (fun p hR => ?_) <;> (conv => whnf)
 ·exact whd
 ·obtain ⟨j, q⟩ := p
  obtain ⟨hj, hq⟩ := hR
  simp only at hj hq
  by_cases hlt : j < l.length
  ·have hc1 := hcn (j + 1)
   rw [aB hlt] at hc1
   have hc0 : 0 ≤ ao cI (l.take j) := am dD _
   have hn := dD l[j]
   have hq1 : 0 ≤ q := by omega
   have hq2 : q + cI l[j] ≤ 1000000000000 := by omega
   have he : ((mkL mB cI k l).map eB)[j]? = some (eB (mB q l[j])) := by rw [hq]; exact fR eB l k hlt
   have hc : decide ((j : Int) < (((mkL mB cI k l).map eB).length : Int)) = true := by simp [hl]; omega
   have e9 : (cI l[j] : Int) = 1 := rfl
   have hq3 : q + 1 ≤ 1000000000000 := by omega
   have g0 : (!(mB (q) l[j] == (Int.tmod (q) 3 == 0))) = false := by rw [Int.tmod_eq_emod_of_nonneg (by omega)]; unfold mB; simp
   clear hc1 hc0 hcn hn
   repeat' (first | (refine aw0 ?_) | (refine awx ?_; conv => whnf) | fail | (refine AIx.at j _ rfl he ?_; conv => whnf) | (refine And.intro (by decide) ?_; conv => whnf) | (refine AW.i64 (by omega) (by omega) ?_; conv => whnf) | (exact rr) | (refine And.intro rfl ?_; conv => whnf) | (refine AB.mk (fun h => ?_) (fun h => ?_) <;> (conv => whnf)))
   refine aF.mk ⟨(j + 1, q + 1), ⟨hlt, by simp only; rw [aB hlt]; omega⟩, by simp only; omega, ?_, ai.nil⟩
   exact hds
  ·have e : j = l.length := by omega
   subst e
   have hc : decide ((l.length : Int) < (((mkL mB cI k l).map eB).length : Int)) = false := by simp [hl]
   repeat' (first | (refine aw0 ?_) | (refine awx ?_; conv => whnf) | fail | (exact rr) | (refine And.intro rfl ?_; conv => whnf) | (refine AB.mk (fun h => ?_) (fun h => ?_) <;> (conv => whnf)))
   all_goals rw [hq, List.take_length]
theorem gr (x : DDisk) (hs : DDisk.small 1048576 x) (k : Int) (h0 : 0 ≤ k) (hk : k + aS x ≤ 1000000000000) : ak av 125 [.agg (li k x).ds, pI k] (.val (pI (k + aS x))) := by
 have n0 := am (cnt := aE) cS x.kept
 have n1 := am (cnt := aI) cR x.wait
 have hkk := hk
 unfold aS at hkk
 have g0 : decide (k + ao aE x.kept < 0) = false := ndL (by omega)
 have g1 : decide (k + ao aE x.kept + ao aI x.wait < 0) = false := ndL (by omega)
 refine ac ah Tryz.func125 rfl Tryz.call125 Tryz.ntmps125 (congrArg Array.toList Tryz.results125) fun S => ?_; conv => whnf
 repeat' (first | (refine aw0 ?_) | (refine awx ?_; conv => whnf) | fail | (refine aa.pure (pz x.kept ⟨hs.1, hs.2.1⟩ (k) (by omega) (by omega)) rfl ?_; conv => whnf) | (refine ae.mk ⟨_, _, pz x.kept ⟨hs.1, hs.2.1⟩ (k) (by omega) (by omega), .inl rfl, ?_⟩; conv => whnf) | (refine aa.pure (qF x.wait ⟨hs.2.2.1, hs.2.2.2⟩ (k + ao aE x.kept) (by omega) (by omega)) rfl ?_; conv => whnf) | (refine ae.mk ⟨_, _, qF x.wait ⟨hs.2.2.1, hs.2.2.2⟩ (k + ao aE x.kept) (by omega) (by omega), .inl rfl, ?_⟩; conv => whnf) | (exact rr) | (refine And.intro rfl ?_; conv => whnf) | (refine AB.mk (fun h => ?_) (fun h => ?_) <;> (conv => whnf)))
 have e : k + ao aE x.kept + ao aI x.wait = k + aS x := by unfold aS; omega
 show AP.val (pI (k + ao aE x.kept + ao aI x.wait)) = AP.val (pI (k + aS x))
 rw [e]
theorem wQ (x : DTwo) (hs : DTwo.small 1048576 x) (k : Int) (h0 : 0 ≤ k) (hk : k + aP x ≤ 1000000000000) : ak av 120 [.agg (nW k x).ds, pI k] (.val (pI (k + aP x))) := by
 have n0 := di x.a
 have n1 := di x.b
 have hkk := hk
 unfold aP at hkk
 have g0 : decide (k + aS x.a < 0) = false := ndL (by omega)
 have g1 : decide (k + aS x.a + aS x.b < 0) = false := ndL (by omega)
 refine ac ah Tryz.func120 rfl Tryz.call120 Tryz.ntmps120 (congrArg Array.toList Tryz.results120) fun S => ?_; conv => whnf
 repeat' (first | (refine aw0 ?_) | (refine awx ?_; conv => whnf) | fail | (refine aa.pure (gr x.a hs.1 (k) (by omega) (by omega)) rfl ?_; conv => whnf) | (refine ae.mk ⟨_, _, gr x.a hs.1 (k) (by omega) (by omega), .inl rfl, ?_⟩; conv => whnf) | (refine aa.pure (gr x.b hs.2 (k + aS x.a) (by omega) (by omega)) rfl ?_; conv => whnf) | (refine ae.mk ⟨_, _, gr x.b hs.2 (k + aS x.a) (by omega) (by omega), .inl rfl, ?_⟩; conv => whnf) | (exact rr) | (refine And.intro rfl ?_; conv => whnf) | (refine AB.mk (fun h => ?_) (fun h => ?_) <;> (conv => whnf)))
 have e : k + aS x.a + aS x.b = k + aP x := by unfold aP; omega
 show AP.val (pI (k + aS x.a + aS x.b)) = AP.val (pI (k + aP x))
 rw [e]
theorem kV (x : DHead) (hs : DHead.small 1048576 x) (k : Int) (h0 : 0 ≤ k) (hk : k + aA x ≤ 1000000000000) : ak av 121 [.agg (fT k x).ds, pI k] (.val (pI (k + aA x))) := by
 have n0 := am (cnt := aD) ck x.seen
 have hkk := hk
 unfold aA at hkk
 have g0 : decide (k + ao aD x.seen < 0) = false := ndL (by omega)
 refine ac ah Tryz.func121 rfl Tryz.call121 Tryz.ntmps121 (congrArg Array.toList Tryz.results121) fun S => ?_; conv => whnf
 repeat' (first | (refine aw0 ?_) | (refine awx ?_; conv => whnf) | fail | (refine aa.pure (iV x.seen hs (k) (by omega) (by omega)) rfl ?_; conv => whnf) | (refine ae.mk ⟨_, _, iV x.seen hs (k) (by omega) (by omega), .inl rfl, ?_⟩; conv => whnf) | (exact rr) | (refine And.intro rfl ?_; conv => whnf) | (refine AB.mk (fun h => ?_) (fun h => ?_) <;> (conv => whnf)))
 have e : k + ao aD x.seen = k + aA x := by unfold aA; omega
 show AP.val (pI (k + ao aD x.seen)) = AP.val (pI (k + aA x))
 rw [e]
theorem uf (x : DBook) (hs : DBook.small 1048576 x) (k : Int) (h0 : 0 ≤ k) (hk : k + bn x ≤ 1000000000000) : ak av 122 [.agg (qZ k x).ds, pI k] (.val (pI (k + bn x))) := by
 have n0 := am (cnt := aK) cQ x.entries
 have hkk := hk
 unfold bn at hkk
 have g0 : decide (k + ao aK x.entries < 0) = false := ndL (by omega)
 refine ac ah Tryz.func122 rfl Tryz.call122 Tryz.ntmps122 (congrArg Array.toList Tryz.results122) fun S => ?_; conv => whnf
 repeat' (first | (refine aw0 ?_) | (refine awx ?_; conv => whnf) | fail | (refine aa.pure (qE x.entries hs (k) (by omega) (by omega)) rfl ?_; conv => whnf) | (refine ae.mk ⟨_, _, qE x.entries hs (k) (by omega) (by omega), .inl rfl, ?_⟩; conv => whnf) | (exact rr) | (refine And.intro rfl ?_; conv => whnf) | (refine AB.mk (fun h => ?_) (fun h => ?_) <;> (conv => whnf)))
 have e : k + ao aK x.entries = k + bn x := by unfold bn; omega
 show AP.val (pI (k + ao aK x.entries)) = AP.val (pI (k + bn x))
 rw [e]
theorem pA (x : DLogNode) (hs : DLogNode.small 1048576 x) (k : Int) (h0 : 0 ≤ k) (hk : k + al x ≤ 1000000000000) : ak av 46 [.agg (cZ k x).ds, pI k] (.val (pI (k + al x))) := by
 have n0 := pX x.two
 have n1 := fw x.head
 have n2 := fw x.nxt
 have n3 := m9 x.book
 have n4 := am (cnt := aD) ck x.seen
 have n5 := am (cnt := bc) dQ x.owe
 have hkk := hk
 unfold al at hkk
 have g0 : decide (k + aP x.two < 0) = false := ndL (by omega)
 have g1 : decide (k + aP x.two + aA x.head < 0) = false := ndL (by omega)
 have g2 : decide (k + aP x.two + aA x.head + aA x.nxt < 0) = false := ndL (by omega)
 have g3 : decide (k + aP x.two + aA x.head + aA x.nxt + bn x.book < 0) = false := ndL (by omega)
 have g4 : decide (k + aP x.two + aA x.head + aA x.nxt + bn x.book + ao aD x.seen < 0) = false := ndL (by omega)
 have g5 : decide (k + aP x.two + aA x.head + aA x.nxt + bn x.book + ao aD x.seen + ao bc x.owe < 0) = false := ndL (by omega)
 refine ac ah Tryz.func46 rfl Tryz.call46 Tryz.ntmps46 (congrArg Array.toList Tryz.results46) fun S => ?_; conv => whnf
 repeat' (first | (refine aw0 ?_) | (refine awx ?_; conv => whnf) | fail | (refine aa.pure (wQ x.two hs.1 (k) (by omega) (by omega)) rfl ?_; conv => whnf) | (refine ae.mk ⟨_, _, wQ x.two hs.1 (k) (by omega) (by omega), .inl rfl, ?_⟩; conv => whnf) | (refine aa.pure (kV x.head hs.2.1 (k + aP x.two) (by omega) (by omega)) rfl ?_; conv => whnf) | (refine ae.mk ⟨_, _, kV x.head hs.2.1 (k + aP x.two) (by omega) (by omega), .inl rfl, ?_⟩; conv => whnf) | (refine aa.pure (kV x.nxt hs.2.2.1 (k + aP x.two + aA x.head) (by omega) (by omega)) rfl ?_; conv => whnf) | (refine ae.mk ⟨_, _, kV x.nxt hs.2.2.1 (k + aP x.two + aA x.head) (by omega) (by omega), .inl rfl, ?_⟩; conv => whnf) | (refine aa.pure (uf x.book hs.2.2.2.1 (k + aP x.two + aA x.head + aA x.nxt) (by omega) (by omega)) rfl ?_; conv => whnf) | (refine ae.mk ⟨_, _, uf x.book hs.2.2.2.1 (k + aP x.two + aA x.head + aA x.nxt) (by omega) (by omega), .inl rfl, ?_⟩; conv => whnf) | (refine aa.pure (iV x.seen hs.2.2.2.2.1 (k + aP x.two + aA x.head + aA x.nxt + bn x.book) (by omega) (by omega)) rfl ?_; conv => whnf) | (refine ae.mk ⟨_, _, iV x.seen hs.2.2.2.2.1 (k + aP x.two + aA x.head + aA x.nxt + bn x.book) (by omega) (by omega), .inl rfl, ?_⟩; conv => whnf) | (refine aa.pure (ue x.owe hs.2.2.2.2.2 (k + aP x.two + aA x.head + aA x.nxt + bn x.book + ao aD x.seen) (by omega) (by omega)) rfl ?_; conv => whnf) | (refine ae.mk ⟨_, _, ue x.owe hs.2.2.2.2.2 (k + aP x.two + aA x.head + aA x.nxt + bn x.book + ao aD x.seen) (by omega) (by omega), .inl rfl, ?_⟩; conv => whnf) | (exact rr) | (refine And.intro rfl ?_; conv => whnf) | (refine AB.mk (fun h => ?_) (fun h => ?_) <;> (conv => whnf)))
 have e : k + aP x.two + aA x.head + aA x.nxt + bn x.book + ao aD x.seen + ao bc x.owe = k + al x := by unfold al; omega
 show AP.val (pI (k + aP x.two + aA x.head + aA x.nxt + bn x.book + ao aD x.seen + ao bc x.owe)) = AP.val (pI (k + al x))
 rw [e]
theorem sa (x : DState) (hs : DState.small 1048576 x) (k : Int) (h0 : 0 ≤ k) (hk : k + bJ x ≤ 1000000000000) : ak av 126 [.agg (uQ k x).ds, pI k] (.val (pI (k + bJ x))) := by
 have n0 := am (cnt := aM) dg x.pairs
 have n1 := am (cnt := bf) dT x.jobs
 have hkk := hk
 unfold bJ at hkk
 have g0 : decide (k + ao aM x.pairs < 0) = false := ndL (by omega)
 have g1 : decide (k + ao aM x.pairs + ao bf x.jobs < 0) = false := ndL (by omega)
 refine ac ah Tryz.func126 rfl Tryz.call126 Tryz.ntmps126 (congrArg Array.toList Tryz.results126) fun S => ?_; conv => whnf
 repeat' (first | (refine aw0 ?_) | (refine awx ?_; conv => whnf) | fail | (refine aa.pure (r9 x.pairs hs.1 (k) (by omega) (by omega)) rfl ?_; conv => whnf) | (refine ae.mk ⟨_, _, r9 x.pairs hs.1 (k) (by omega) (by omega), .inl rfl, ?_⟩; conv => whnf) | (refine aa.pure (ui x.jobs hs.2 (k + ao aM x.pairs) (by omega) (by omega)) rfl ?_; conv => whnf) | (refine ae.mk ⟨_, _, ui x.jobs hs.2 (k + ao aM x.pairs) (by omega) (by omega), .inl rfl, ?_⟩; conv => whnf) | (exact rr) | (refine And.intro rfl ?_; conv => whnf) | (refine AB.mk (fun h => ?_) (fun h => ?_) <;> (conv => whnf)))
 have e : k + ao aM x.pairs + ao bf x.jobs = k + bJ x := by unfold bJ; omega
 show AP.val (pI (k + ao aM x.pairs + ao bf x.jobs)) = AP.val (pI (k + bJ x))
 rw [e]
theorem sd (x : DStore) (hs : DStore.small 1048576 x) (k : Int) (h0 : 0 ≤ k) (hk : k + au x ≤ 1000000000000) : ak av 47 [.agg (eZ k x).ds, pI k] (.val (pI (k + au x))) := by
 have n0 := di x.disk
 have n1 := ky x.state
 have hkk := hk
 unfold au at hkk
 have g0 : decide (k + aS x.disk < 0) = false := ndL (by omega)
 have g1 : decide (k + aS x.disk + bJ x.state < 0) = false := ndL (by omega)
 refine ac ah Tryz.func47 rfl Tryz.call47 Tryz.ntmps47 (congrArg Array.toList Tryz.results47) fun S => ?_; conv => whnf
 repeat' (first | (refine aw0 ?_) | (refine awx ?_; conv => whnf) | fail | (refine aa.pure (gr x.disk hs.1 (k) (by omega) (by omega)) rfl ?_; conv => whnf) | (refine ae.mk ⟨_, _, gr x.disk hs.1 (k) (by omega) (by omega), .inl rfl, ?_⟩; conv => whnf) | (refine aa.pure (sa x.state hs.2 (k + aS x.disk) (by omega) (by omega)) rfl ?_; conv => whnf) | (refine ae.mk ⟨_, _, sa x.state hs.2 (k + aS x.disk) (by omega) (by omega), .inl rfl, ?_⟩; conv => whnf) | (exact rr) | (refine And.intro rfl ?_; conv => whnf) | (refine AB.mk (fun h => ?_) (fun h => ?_) <;> (conv => whnf)))
 have e : k + aS x.disk + bJ x.state = k + au x := by unfold au; omega
 show AP.val (pI (k + aS x.disk + bJ x.state)) = AP.val (pI (k + au x))
 rw [e]
theorem uj (x : DJobs) (hs : DJobs.small 1048576 x) (k : Int) (h0 : 0 ≤ k) (hk : k + bS x ≤ 1000000000000) : ak av 204 [.agg (yF k x).ds, pI k] (.val (pI (k + bS x))) := by
 have n0 := am (cnt := bd) dR x.opens
 have hkk := hk
 unfold bS at hkk
 have g0 : decide (k + ao bd x.opens < 0) = false := ndL (by omega)
 refine ac ah Tryz.func204 rfl Tryz.call204 Tryz.ntmps204 (congrArg Array.toList Tryz.results204) fun S => ?_; conv => whnf
 repeat' (first | (refine aw0 ?_) | (refine awx ?_; conv => whnf) | fail | (refine aa.pure (ug x.opens hs (k) (by omega) (by omega)) rfl ?_; conv => whnf) | (refine ae.mk ⟨_, _, ug x.opens hs (k) (by omega) (by omega), .inl rfl, ?_⟩; conv => whnf) | (exact rr) | (refine And.intro rfl ?_; conv => whnf) | (refine AB.mk (fun h => ?_) (fun h => ?_) <;> (conv => whnf)))
 have e : k + ao bd x.opens = k + bS x := by unfold bS; omega
 show AP.val (pI (k + ao bd x.opens)) = AP.val (pI (k + bS x))
 rw [e]
theorem ul (x : DView) (hs : DView.small 1048576 x) (k : Int) (h0 : 0 ≤ k) (hk : k + bU x ≤ 1000000000000) : ak av 127 [.agg (yG k x).ds, pI k] (.val (pI (k + bU x))) := by
 have n0 := nc x.jobs
 have hkk := hk
 unfold bU at hkk
 have g0 : decide (k + bS x.jobs < 0) = false := ndL (by omega)
 refine ac ah Tryz.func127 rfl Tryz.call127 Tryz.ntmps127 (congrArg Array.toList Tryz.results127) fun S => ?_; conv => whnf
 repeat' (first | (refine aw0 ?_) | (refine awx ?_; conv => whnf) | fail | (refine aa.pure (uj x.jobs hs (k) (by omega) (by omega)) rfl ?_; conv => whnf) | (refine ae.mk ⟨_, _, uj x.jobs hs (k) (by omega) (by omega), .inl rfl, ?_⟩; conv => whnf) | (exact rr) | (refine And.intro rfl ?_; conv => whnf) | (refine AB.mk (fun h => ?_) (fun h => ?_) <;> (conv => whnf)))
 have e : k + bS x.jobs = k + bU x := by unfold bU; omega
 show AP.val (pI (k + bS x.jobs)) = AP.val (pI (k + bU x))
 rw [e]
theorem iW (x : DSched) (hs : DSched.small 1048576 x) (k : Int) (h0 : 0 ≤ k) (hk : k + an x ≤ 1000000000000) : ak av 48 [.agg (c9 k x).ds, pI k] (.val (pI (k + an x))) := by
 have n0 := ne x.view
 have hkk := hk
 unfold an at hkk
 have g0 : decide (k + bU x.view < 0) = false := ndL (by omega)
 refine ac ah Tryz.func48 rfl Tryz.call48 Tryz.ntmps48 (congrArg Array.toList Tryz.results48) fun S => ?_; conv => whnf
 repeat' (first | (refine aw0 ?_) | (refine awx ?_; conv => whnf) | fail | (refine aa.pure (ul x.view hs (k) (by omega) (by omega)) rfl ?_; conv => whnf) | (refine ae.mk ⟨_, _, ul x.view hs (k) (by omega) (by omega), .inl rfl, ?_⟩; conv => whnf) | (exact rr) | (refine And.intro rfl ?_; conv => whnf) | (refine AB.mk (fun h => ?_) (fun h => ?_) <;> (conv => whnf)))
 have e : k + bU x.view = k + an x := by unfold an; omega
 show AP.val (pI (k + bU x.view)) = AP.val (pI (k + an x))
 rw [e]
theorem ii (x : DClient) (hs : DClient.small 1048576 x) (k : Int) (h0 : 0 ≤ k) (hk : k + ar x ≤ 1000000000000) : ak av 49 [.agg (dG k x).ds, pI k] (.val (pI (k + ar x))) := by
 have n0 := am (cnt := aN) dh x.todo
 have n1 := am (cnt := be) dS x.gots
 have hkk := hk
 unfold ar at hkk
 have g0 : decide (k + ao aN x.todo < 0) = false := ndL (by omega)
 have g1 : decide (k + ao aN x.todo + ao be x.gots < 0) = false := ndL (by omega)
 refine ac ah Tryz.func49 rfl Tryz.call49 Tryz.ntmps49 (congrArg Array.toList Tryz.results49) fun S => ?_; conv => whnf
 repeat' (first | (refine aw0 ?_) | (refine awx ?_; conv => whnf) | fail | (refine aa.pure (se x.todo hs.1 (k) (by omega) (by omega)) rfl ?_; conv => whnf) | (refine ae.mk ⟨_, _, se x.todo hs.1 (k) (by omega) (by omega), .inl rfl, ?_⟩; conv => whnf) | (refine aa.pure (uh x.gots hs.2 (k + ao aN x.todo) (by omega) (by omega)) rfl ?_; conv => whnf) | (refine ae.mk ⟨_, _, uh x.gots hs.2 (k + ao aN x.todo) (by omega) (by omega), .inl rfl, ?_⟩; conv => whnf) | (exact rr) | (refine And.intro rfl ?_; conv => whnf) | (refine AB.mk (fun h => ?_) (fun h => ?_) <;> (conv => whnf)))
 have e : k + ao aN x.todo + ao be x.gots = k + ar x := by unfold ar; omega
 show AP.val (pI (k + ao aN x.todo + ao be x.gots)) = AP.val (pI (k + ar x))
 rw [e]
theorem wP (x : DNet) (hs : DNet.small 1048576 x) (k : Int) (h0 : 0 ≤ k) (hk : k + bD x ≤ 1000000000000) : ak av 50 [.agg (uP k x).ds, pI k] (.val (pI (k + bD x))) := by
 have n0 := am (cnt := aV) dU x.flight
 have n1 := am (cnt := aU) de x.cuts
 have hkk := hk
 unfold bD at hkk
 have g0 : decide (k + ao aV x.flight < 0) = false := ndL (by omega)
 have g1 : decide (k + ao aV x.flight + ao aU x.cuts < 0) = false := ndL (by omega)
 refine ac ah Tryz.func50 rfl Tryz.call50 Tryz.ntmps50 (congrArg Array.toList Tryz.results50) fun S => ?_; conv => whnf
 repeat' (first | (refine aw0 ?_) | (refine awx ?_; conv => whnf) | fail | (refine aa.pure (uk x.flight ⟨hs.1, hs.2.1⟩ (k) (by omega) (by omega)) rfl ?_; conv => whnf) | (refine ae.mk ⟨_, _, uk x.flight ⟨hs.1, hs.2.1⟩ (k) (by omega) (by omega), .inl rfl, ?_⟩; conv => whnf) | (refine aa.pure (r8 x.cuts hs.2.2 (k + ao aV x.flight) (by omega) (by omega)) rfl ?_; conv => whnf) | (refine ae.mk ⟨_, _, r8 x.cuts hs.2.2 (k + ao aV x.flight) (by omega) (by omega), .inl rfl, ?_⟩; conv => whnf) | (exact rr) | (refine And.intro rfl ?_; conv => whnf) | (refine AB.mk (fun h => ?_) (fun h => ?_) <;> (conv => whnf)))
 have e : k + ao aV x.flight + ao aU x.cuts = k + bD x := by unfold bD; omega
 show AP.val (pI (k + ao aV x.flight + ao aU x.cuts)) = AP.val (pI (k + bD x))
 rw [e]
theorem iX (x : DWorld) (hs : DWorld.small 1048576 x) (k : Int) (h0 : 0 ≤ k) (hk : k + bz x ≤ 1000000000000) : ak av 11 [.agg (As k x).ds, pI k] (.val (pI (k + bz x))) := by
 have n0 := iD x.log
 have n1 := kz x.store
 have n2 := eJ x.left
 have n3 := eJ x.right
 have n4 := ed x.ann
 have n5 := ed x.bob
 have n6 := pW x.net
 have n7 := am (cnt := cI) dD x.clocks
 have n8 := am (cnt := cI) dD x.up
 have hkk := hk
 unfold bz at hkk
 have g0 : decide (k + al x.log < 0) = false := ndL (by omega)
 have g1 : decide (k + al x.log + au x.store < 0) = false := ndL (by omega)
 have g2 : decide (k + al x.log + au x.store + an x.left < 0) = false := ndL (by omega)
 have g3 : decide (k + al x.log + au x.store + an x.left + an x.right < 0) = false := ndL (by omega)
 have g4 : decide (k + al x.log + au x.store + an x.left + an x.right + ar x.ann < 0) = false := ndL (by omega)
 have g5 : decide (k + al x.log + au x.store + an x.left + an x.right + ar x.ann + ar x.bob < 0) = false := ndL (by omega)
 have g6 : decide (k + al x.log + au x.store + an x.left + an x.right + ar x.ann + ar x.bob + bD x.net < 0) = false := ndL (by omega)
 have g7 : decide (k + al x.log + au x.store + an x.left + an x.right + ar x.ann + ar x.bob + bD x.net + ao cI x.clocks < 0) = false := ndL (by omega)
 have g8 : decide (k + al x.log + au x.store + an x.left + an x.right + ar x.ann + ar x.bob + bD x.net + ao cI x.clocks + ao cI x.up < 0) = false := ndL (by omega)
 refine ac ah Tryz.func11 rfl Tryz.call11 Tryz.ntmps11 (congrArg Array.toList Tryz.results11) fun S => ?_; conv => whnf
 repeat' (first | (refine aw0 ?_) | (refine awx ?_; conv => whnf) | fail | (refine aa.pure (pA x.log hs.1 (k) (by omega) (by omega)) rfl ?_; conv => whnf) | (refine ae.mk ⟨_, _, pA x.log hs.1 (k) (by omega) (by omega), .inl rfl, ?_⟩; conv => whnf) | (refine aa.pure (sd x.store hs.2.1 (k + al x.log) (by omega) (by omega)) rfl ?_; conv => whnf) | (refine ae.mk ⟨_, _, sd x.store hs.2.1 (k + al x.log) (by omega) (by omega), .inl rfl, ?_⟩; conv => whnf) | (refine aa.pure (iW x.left hs.2.2.1 (k + al x.log + au x.store) (by omega) (by omega)) rfl ?_; conv => whnf) | (refine ae.mk ⟨_, _, iW x.left hs.2.2.1 (k + al x.log + au x.store) (by omega) (by omega), .inl rfl, ?_⟩; conv => whnf) | (refine aa.pure (iW x.right hs.2.2.2.1 (k + al x.log + au x.store + an x.left) (by omega) (by omega)) rfl ?_; conv => whnf) | (refine ae.mk ⟨_, _, iW x.right hs.2.2.2.1 (k + al x.log + au x.store + an x.left) (by omega) (by omega), .inl rfl, ?_⟩; conv => whnf) | (refine aa.pure (ii x.ann hs.2.2.2.2.1 (k + al x.log + au x.store + an x.left + an x.right) (by omega) (by omega)) rfl ?_; conv => whnf) | (refine ae.mk ⟨_, _, ii x.ann hs.2.2.2.2.1 (k + al x.log + au x.store + an x.left + an x.right) (by omega) (by omega), .inl rfl, ?_⟩; conv => whnf) | (refine aa.pure (ii x.bob hs.2.2.2.2.2.1 (k + al x.log + au x.store + an x.left + an x.right + ar x.ann) (by omega) (by omega)) rfl ?_; conv => whnf) | (refine ae.mk ⟨_, _, ii x.bob hs.2.2.2.2.2.1 (k + al x.log + au x.store + an x.left + an x.right + ar x.ann) (by omega) (by omega), .inl rfl, ?_⟩; conv => whnf) | (refine aa.pure (wP x.net hs.2.2.2.2.2.2.1 (k + al x.log + au x.store + an x.left + an x.right + ar x.ann + ar x.bob) (by omega) (by omega)) rfl ?_; conv => whnf) | (refine ae.mk ⟨_, _, wP x.net hs.2.2.2.2.2.2.1 (k + al x.log + au x.store + an x.left + an x.right + ar x.ann + ar x.bob) (by omega) (by omega), .inl rfl, ?_⟩; conv => whnf) | (refine aa.pure (dl x.clocks hs.2.2.2.2.2.2.2.1 (k + al x.log + au x.store + an x.left + an x.right + ar x.ann + ar x.bob + bD x.net) (by omega) (by omega)) rfl ?_; conv => whnf) | (refine ae.mk ⟨_, _, dl x.clocks hs.2.2.2.2.2.2.2.1 (k + al x.log + au x.store + an x.left + an x.right + ar x.ann + ar x.bob + bD x.net) (by omega) (by omega), .inl rfl, ?_⟩; conv => whnf) | (refine aa.pure (r7 x.up hs.2.2.2.2.2.2.2.2 (k + al x.log + au x.store + an x.left + an x.right + ar x.ann + ar x.bob + bD x.net + ao cI x.clocks) (by omega) (by omega)) rfl ?_; conv => whnf) | (refine ae.mk ⟨_, _, r7 x.up hs.2.2.2.2.2.2.2.2 (k + al x.log + au x.store + an x.left + an x.right + ar x.ann + ar x.bob + bD x.net + ao cI x.clocks) (by omega) (by omega), .inl rfl, ?_⟩; conv => whnf) | (exact rr) | (refine And.intro rfl ?_; conv => whnf) | (refine AB.mk (fun h => ?_) (fun h => ?_) <;> (conv => whnf)))
 have e : k + al x.log + au x.store + an x.left + an x.right + ar x.ann + ar x.bob + bD x.net + ao cI x.clocks + ao cI x.up = k + bz x := by unfold bz; omega
 show AP.val (pI (k + al x.log + au x.store + an x.left + an x.right + ar x.ann + ar x.bob + bD x.net + ao cI x.clocks + ao cI x.up)) = AP.val (pI (k + bz x))
 rw [e]
end Go.Proofs.YtcmknngafflcnaaGreat
