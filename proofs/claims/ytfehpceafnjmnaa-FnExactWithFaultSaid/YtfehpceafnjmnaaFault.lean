/- The faults: the lists of steps that they are, and the small functions that build them. -/
import Derived.Test.YtfehpceafnjmnaaToStep
set_option linter.unusedVariables false
set_option linter.unusedSimpArgs false
set_option maxRecDepth 100000
namespace Go.Proofs.Ytfehpceafnjmnaa
open Go.ChangeShapes Go.WideShapes Go.RowKit

def fallL (node : Int) (fs : List Int) : List DStep := [⟨5, node, 0, 0, fs⟩, ⟨6, node, 0, 0, []⟩]
def logFates : List Int := [1, 0, 0, 1, 2, 1, 1, 2, 0, 2, 1, 0]
def storeFates : List Int := [1, 2, 0, 1, 0, 2, 1, 1, 2, 0, 1, 2]
def faultL (k : Int) : List DStep :=
  if k = 0 then fallL 0 [] else if k = 1 then fallL 0 (List.replicate 12 1) else if k = 2 then fallL 0 (List.replicate 12 2) else if k = 3 then fallL 0 logFates else if k = 4 then fallL 1 []
  else if k = 5 then fallL 1 storeFates else if k = 6 then fallL 2 [] else if k = 7 then [⟨7, 0, 0, 0, []⟩] else if k = 8 then [⟨8, 0, 0, 0, []⟩] else if k = 9 then [⟨9, 0, 1, 0, []⟩]
  else if k = 10 then [⟨4, 0, 0, 0, []⟩] else if k = 11 then [⟨4, 3, 60, 0, []⟩] else if k = 12 then [⟨11, 3, 1, 5, []⟩] else if k = 13 then [⟨5, 0, 0, 0, logFates⟩, ⟨5, 1, 0, 0, storeFates⟩, ⟨6, 1, 0, 0, []⟩, ⟨6, 0, 0, 0, []⟩] else []

/-- A call hands back a slice that reads as l, in memory from B on. -/
def OutSlB {α : Type} (R : Rep α) (B : Nat) (l : List α) (w : World) (e : Ending) (w' : World) : Prop :=
  ∃ A cap F, e = .returned (.slice A l.length cap) ∧ Res R.sl B w' [.slice A l.length cap] l F ∧ Below w.heap.size w w'
theorem OutSlB.out {α : Type} {R : Rep α} {l : List α} {w : World} {e : Ending} {w' : World} (h : OutSlB R w.heap.size l w e w') : OutSl R l w e w' := by
  obtain ⟨A, cap, F, e, hr, hb⟩ := h
  exact ⟨A, cap, F, e, hr.rd, hr.fresh, hb⟩

theorem nilInts_rd (w : World) : (Rep.sl (Rep.int .i64)).rd w [.slice none 0 0] [] [] := ⟨none, 0, [], [], rfl, Nat.le_refl _, Nat.zero_le _, fun j hj => absurd hj (Nat.not_lt_zero _), ⟨rfl, rfl⟩, rfl⟩

/-- A new block of cells that read as l. -/
theorem new_sl {α : Type} {R : Rep α} (w : World) (t : TypeId) (cs : Array Value) (l : List α) (F : List Nat) (B : Nat) (hB : B ≤ w.heap.size) (hall : R.all w cs.toList l F) (hfr : Fresh B w F) (hl : l.length ≤ 1000000000) :
    ∃ G, Res R.sl B (w.alloc (.cells cs t)) [.slice (some ⟨w.heap.size, 0, none⟩) l.length l.length] l G ∧ ∀ g ∈ G, g = w.heap.size ∨ g ∈ F := by
  have hkeep : ∀ b ∈ F, (w.alloc (.cells cs t)).heap[b]? = w.heap[b]? := fun b hb => Below.heap_alloc w _ b (hfr.lt b hb)
  refine ⟨headOf (some ⟨w.heap.size, 0, none⟩) cs.toList ++ F, ⟨⟨_, _, _, F, rfl, Nat.le_refl _, by unfold maxLen; omega, Row.new w cs t, Rep.all_keep hall hkeep, rfl⟩, ?_⟩, ?_⟩
  · refine Fresh.join ?_ (hfr.keep hkeep) ?_
    · unfold headOf
      split
      · exact Fresh.nil _ _
      · exact ⟨by simp, fun b hb => by simp only [List.mem_singleton] at hb; subst hb; exact ⟨hB, _, _, heap_alloc_new w _⟩⟩
    · intro b hb hb'
      unfold headOf at hb
      split at hb
      · cases hb
      · simp only [List.mem_singleton] at hb
        have := hfr.lt b hb'
        omega
  · intro g hg
    rcases List.mem_append.1 hg with hg | hg
    · unfold headOf at hg
      split at hg
      · cases hg
      · simp only [List.mem_singleton] at hg; exact .inl hg
    · exact .inr hg

set_option maxHeartbeats 1000000 in
theorem ifallAndRise_calls (node : Int) (fs : List Int) (A : Option Addr) (n cap : Nat) (F : List Nat) (B : Nat) (w : World) (h : Res (Rep.sl (Rep.int .i64)) B w [.slice A n cap] fs F) (hB : B ≤ w.heap.size) (hnode : (Lit.int .i64 node).wf = true) :
    Calls Try.prog 43 #[.int .i64 node, .slice A n cap] w (OutSlB Rep.DStep B (fallL node fs) w) := by
  obtain ⟨rfl, _⟩ := Rep.sl_open h.rd
  have hall : Rep.DStep.all w [.int .i64 5, .int .i64 node, .int .i64 0, .int .i64 0, .slice A fs.length cap, .int .i64 6, .int .i64 node, .int .i64 0, .int .i64 0, .slice none 0 0] (fallL node fs) F := by
    have h1 := Rep.all_append (R := Rep.DStep) (Rep.all_one_elem (DStep_make (x := ⟨5, node, 0, 0, fs⟩) (by dsimp only; decide) hnode (by dsimp only; decide) (by dsimp only; decide) h.rd)) (Rep.all_one_elem (DStep_make (x := ⟨6, node, 0, 0, []⟩) (by dsimp only; decide) hnode (by dsimp only; decide) (by dsimp only; decide) (nilInts_rd w)))
    rw [List.append_nil] at h1
    exact h1
  obtain ⟨G, hG, _⟩ := new_sl (R := Rep.DStep) w 44 #[.int .i64 5, .int .i64 node, .int .i64 0, .int .i64 0, .slice A fs.length cap, .int .i64 6, .int .i64 node, .int .i64 0, .int .i64 0, .slice none 0 0] (fallL node fs) F B hB hall h.fresh (by simp [fallL])
  clear hall
  have HG := Lib.hid hG
  clear hG h
  go_enter Try.func43, Try.ntmps43
  go_wp2
  go_ret
  exact ⟨_, _, G, rfl, HG.out, (by repeat (first | with_reducible exact Below.refl _ _ | with_reducible assumption | (with_reducible refine Below.drew ?_) | (with_reducible refine Below.alloc ?_ (by first | with_reducible exact Nat.le_refl _ | omega | (simp; done) | (simp; omega) | (simp [World.setCell]; omega) | (simp [World.setCell]; done)) _) | (with_reducible refine Below.setCell ?_ (by first | with_reducible exact Nat.le_refl _ | omega | (simp; done) | (simp; omega) | (simp [World.setCell]; omega) | (simp [World.setCell]; done)) _)))⟩
set_option maxHeartbeats 1000000 in
theorem sl31Fall_calls (node : Int) (fs : List Int) (A : Option Addr) (n cap : Nat) (F : List Nat) (B : Nat) (w : World) (h : Res (Rep.sl (Rep.int .i64)) B w [.slice A n cap] fs F) (hB : B ≤ w.heap.size) (hnode : (Lit.int .i64 node).wf = true) :
    Calls Try.prog 26 #[.int .i64 node, .slice A n cap] w (OutSlB Rep.DStep B (fallL node fs) w) := by
  obtain ⟨rfl, _⟩ := Rep.sl_open h.rd
  have hall : Rep.DStep.all w [.int .i64 5, .int .i64 node, .int .i64 0, .int .i64 0, .slice A fs.length cap, .int .i64 6, .int .i64 node, .int .i64 0, .int .i64 0, .slice none 0 0] (fallL node fs) F := by
    have h1 := Rep.all_append (R := Rep.DStep) (Rep.all_one_elem (DStep_make (x := ⟨5, node, 0, 0, fs⟩) (by dsimp only; decide) hnode (by dsimp only; decide) (by dsimp only; decide) h.rd)) (Rep.all_one_elem (DStep_make (x := ⟨6, node, 0, 0, []⟩) (by dsimp only; decide) hnode (by dsimp only; decide) (by dsimp only; decide) (nilInts_rd w)))
    rw [List.append_nil] at h1
    exact h1
  obtain ⟨G, hG, _⟩ := new_sl (R := Rep.DStep) w 44 #[.int .i64 5, .int .i64 node, .int .i64 0, .int .i64 0, .slice A fs.length cap, .int .i64 6, .int .i64 node, .int .i64 0, .int .i64 0, .slice none 0 0] (fallL node fs) F B hB hall h.fresh (by simp [fallL])
  clear hall
  have HG := Lib.hid hG
  clear hG h
  go_enter Try.func26, Try.ntmps26
  go_wp2
  go_ret
  exact ⟨_, _, G, rfl, HG.out, (by repeat (first | with_reducible exact Below.refl _ _ | with_reducible assumption | (with_reducible refine Below.drew ?_) | (with_reducible refine Below.alloc ?_ (by first | with_reducible exact Nat.le_refl _ | omega | (simp; done) | (simp; omega) | (simp [World.setCell]; omega) | (simp [World.setCell]; done)) _) | (with_reducible refine Below.setCell ?_ (by first | with_reducible exact Nat.le_refl _ | omega | (simp; done) | (simp; omega) | (simp [World.setCell]; omega) | (simp [World.setCell]; done)) _)))⟩
theorem imixedLog_calls (w : World) : Calls Try.prog 48 #[] w (OutSl (Rep.int .i64) logFates w) := by
  obtain ⟨G, hG, _⟩ := new_sl (R := Rep.int .i64) w 2 (logFates.map (Value.int .i64)).toArray logFates [] w.heap.size (Nat.le_refl _) (ints_all w .i64 logFates (by decide)) (Fresh.nil _ _) (by decide)
  have HG := Lib.hid hG
  clear hG
  go_enter Try.func48, Try.ntmps48
  go_wp2
  go_ret
  exact ⟨_, _, G, rfl, HG.out.rd, HG.out.fresh, (by repeat (first | with_reducible exact Below.refl _ _ | with_reducible assumption | (with_reducible refine Below.drew ?_) | (with_reducible refine Below.alloc ?_ (by first | with_reducible exact Nat.le_refl _ | omega | (simp; done) | (simp; omega) | (simp [World.setCell]; omega) | (simp [World.setCell]; done)) _) | (with_reducible refine Below.setCell ?_ (by first | with_reducible exact Nat.le_refl _ | omega | (simp; done) | (simp; omega) | (simp [World.setCell]; omega) | (simp [World.setCell]; done)) _)))⟩
theorem sl31LogFates_calls (w : World) : Calls Try.prog 28 #[] w (OutSl (Rep.int .i64) logFates w) := by
  obtain ⟨G, hG, _⟩ := new_sl (R := Rep.int .i64) w 2 (logFates.map (Value.int .i64)).toArray logFates [] w.heap.size (Nat.le_refl _) (ints_all w .i64 logFates (by decide)) (Fresh.nil _ _) (by decide)
  have HG := Lib.hid hG
  clear hG
  go_enter Try.func28, Try.ntmps28
  go_wp2
  go_ret
  exact ⟨_, _, G, rfl, HG.out.rd, HG.out.fresh, (by repeat (first | with_reducible exact Below.refl _ _ | with_reducible assumption | (with_reducible refine Below.drew ?_) | (with_reducible refine Below.alloc ?_ (by first | with_reducible exact Nat.le_refl _ | omega | (simp; done) | (simp; omega) | (simp [World.setCell]; omega) | (simp [World.setCell]; done)) _) | (with_reducible refine Below.setCell ?_ (by first | with_reducible exact Nat.le_refl _ | omega | (simp; done) | (simp; omega) | (simp [World.setCell]; omega) | (simp [World.setCell]; done)) _)))⟩
theorem imixedStore_calls (w : World) : Calls Try.prog 51 #[] w (OutSl (Rep.int .i64) storeFates w) := by
  obtain ⟨G, hG, _⟩ := new_sl (R := Rep.int .i64) w 2 (storeFates.map (Value.int .i64)).toArray storeFates [] w.heap.size (Nat.le_refl _) (ints_all w .i64 storeFates (by decide)) (Fresh.nil _ _) (by decide)
  have HG := Lib.hid hG
  clear hG
  go_enter Try.func51, Try.ntmps51
  go_wp2
  go_ret
  exact ⟨_, _, G, rfl, HG.out.rd, HG.out.fresh, (by repeat (first | with_reducible exact Below.refl _ _ | with_reducible assumption | (with_reducible refine Below.drew ?_) | (with_reducible refine Below.alloc ?_ (by first | with_reducible exact Nat.le_refl _ | omega | (simp; done) | (simp; omega) | (simp [World.setCell]; omega) | (simp [World.setCell]; done)) _) | (with_reducible refine Below.setCell ?_ (by first | with_reducible exact Nat.le_refl _ | omega | (simp; done) | (simp; omega) | (simp [World.setCell]; omega) | (simp [World.setCell]; done)) _)))⟩
theorem sl31StoreFates_calls (w : World) : Calls Try.prog 29 #[] w (OutSl (Rep.int .i64) storeFates w) := by
  obtain ⟨G, hG, _⟩ := new_sl (R := Rep.int .i64) w 2 (storeFates.map (Value.int .i64)).toArray storeFates [] w.heap.size (Nat.le_refl _) (ints_all w .i64 storeFates (by decide)) (Fresh.nil _ _) (by decide)
  have HG := Lib.hid hG
  clear hG
  go_enter Try.func29, Try.ntmps29
  go_wp2
  go_ret
  exact ⟨_, _, G, rfl, HG.out.rd, HG.out.fresh, (by repeat (first | with_reducible exact Below.refl _ _ | with_reducible assumption | (with_reducible refine Below.drew ?_) | (with_reducible refine Below.alloc ?_ (by first | with_reducible exact Nat.le_refl _ | omega | (simp; done) | (simp; omega) | (simp [World.setCell]; omega) | (simp [World.setCell]; done)) _) | (with_reducible refine Below.setCell ?_ (by first | with_reducible exact Nat.le_refl _ | omega | (simp; done) | (simp; omega) | (simp [World.setCell]; omega) | (simp [World.setCell]; done)) _)))⟩
set_option maxHeartbeats 1000000 in
theorem irepeated_calls (fate : Int) (w : World) (hf : (Lit.int .i64 fate).wf = true) : Calls Try.prog 45 #[.int .i64 fate] w (OutSl (Rep.int .i64) (List.replicate 12 fate) w) := by
  go_enter Try.func45, Try.ntmps45
  go_wp2
  go_loopw [3] (fun out wr => ∃ (k : Nat) (A' : Option Addr) (c' : Nat), k ≤ 12 ∧ out = .slice A' k c' ∧ Grow (Rep.int .i64) 2 w.heap.size wr (.slice A' k c') k (List.replicate k fate) ∧ Below w.heap.size w wr) (fun out _ => 12 - (match out with | .slice _ n _ => n | _ => 0))
  case atStart => exact ⟨0, _, _, Nat.zero_le _, rfl, Grow.empty _ _ _ (Nat.le_refl _), (by repeat (first | with_reducible exact Below.refl _ _ | with_reducible assumption | (with_reducible refine Below.drew ?_) | (with_reducible refine Below.alloc ?_ (by first | with_reducible exact Nat.le_refl _ | omega | (simp; done) | (simp; omega) | (simp [World.setCell]; omega) | (simp [World.setCell]; done)) _) | (with_reducible refine Below.setCell ?_ (by first | with_reducible exact Nat.le_refl _ | omega | (simp; done) | (simp; omega) | (simp [World.setCell]; omega) | (simp [World.setCell]; done)) _)))⟩
  case round =>
    obtain ⟨k, B', c', hk, rfl, hg, hb⟩ := hrel
    by_cases hlt : k < 12
    · have hz := hb.size
      go_wp2_with (at_builtin; refine wpList_grow (R := Rep.int .i64) rfl _ _ 40 rfl wr 2 w.heap.size Try.underlying40 infoI64 rfl (by decide) _ k (List.replicate k fate) rfl hg (by repeat (first | with_reducible exact Below.refl _ _ | with_reducible assumption | (with_reducible refine Below.drew ?_) | (with_reducible refine Below.alloc ?_ (by first | with_reducible exact Nat.le_refl _ | omega | (simp; done) | (simp; omega) | (simp [World.setCell]; omega) | (simp [World.setCell]; done)) _) | (with_reducible refine Below.setCell ?_ (by first | with_reducible exact Nat.le_refl _ | omega | (simp; done) | (simp; omega) | (simp [World.setCell]; omega) | (simp [World.setCell]; done)) _))) _ 1 _ _ [fate] [] rfl rfl (row_one _ _) (Rep.all_one_elem ⟨rfl, hf, rfl⟩) (Fresh.nil _ _) hb.size (by omega) (by decide) ?_; intro A2 c2 w2 hg2 hb2 hgr2)
      have hb3 := Below.trans (a := w) (by repeat (first | with_reducible exact Below.refl _ _ | with_reducible assumption | (with_reducible refine Below.drew ?_) | (with_reducible refine Below.alloc ?_ (by first | with_reducible exact Nat.le_refl _ | omega | (simp; done) | (simp; omega) | (simp [World.setCell]; omega) | (simp [World.setCell]; done)) _) | (with_reducible refine Below.setCell ?_ (by first | with_reducible exact Nat.le_refl _ | omega | (simp; done) | (simp; omega) | (simp [World.setCell]; omega) | (simp [World.setCell]; done)) _))) hb2
      have hg3 : Grow (Rep.int .i64) 2 w.heap.size w2 (.slice A2 (k + 1) c2) (k + 1) (List.replicate (k + 1) fate) := by rw [List.replicate_succ']; exact hg2
      exact ⟨⟨k + 1, A2, c2, by omega, rfl, hg3, hb3⟩, by simp; omega⟩
    · have e : k = 12 := by omega
      subst e
      have H := Grow.out hg hb
      clear hg hb
      go_wp2
      go_ret
      exact H
set_option maxHeartbeats 1000000 in
theorem sl31Twelve_calls (fate : Int) (w : World) (hf : (Lit.int .i64 fate).wf = true) : Calls Try.prog 27 #[.int .i64 fate] w (OutSl (Rep.int .i64) (List.replicate 12 fate) w) := by
  go_enter Try.func27, Try.ntmps27
  go_wp2
  go_loopw [3, 4] (fun out i wr => ∃ (k : Nat) (A' : Option Addr) (c' : Nat), k ≤ 12 ∧ i = .int .i64 k ∧ out = .slice A' k c' ∧ Grow (Rep.int .i64) 2 w.heap.size wr (.slice A' k c') k (List.replicate k fate) ∧ Below w.heap.size w wr) (fun _ i _ => 12 - (intOf i).toNat)
  case atStart => exact ⟨0, _, _, Nat.zero_le _, rfl, rfl, Grow.empty _ _ _ (Nat.le_refl _), (by repeat (first | with_reducible exact Below.refl _ _ | with_reducible assumption | (with_reducible refine Below.drew ?_) | (with_reducible refine Below.alloc ?_ (by first | with_reducible exact Nat.le_refl _ | omega | (simp; done) | (simp; omega) | (simp [World.setCell]; omega) | (simp [World.setCell]; done)) _) | (with_reducible refine Below.setCell ?_ (by first | with_reducible exact Nat.le_refl _ | omega | (simp; done) | (simp; omega) | (simp [World.setCell]; omega) | (simp [World.setCell]; done)) _)))⟩
  case round =>
    obtain ⟨k, B', c', hk, rfl, rfl, hg, hb⟩ := hrel
    by_cases hlt : k < 12
    · have hz := hb.size
      go_wp2_with (at_builtin; refine wpList_grow (R := Rep.int .i64) rfl _ _ 40 rfl wr 2 w.heap.size Try.underlying40 infoI64 rfl (by decide) _ k (List.replicate k fate) rfl hg (by repeat (first | with_reducible exact Below.refl _ _ | with_reducible assumption | (with_reducible refine Below.drew ?_) | (with_reducible refine Below.alloc ?_ (by first | with_reducible exact Nat.le_refl _ | omega | (simp; done) | (simp; omega) | (simp [World.setCell]; omega) | (simp [World.setCell]; done)) _) | (with_reducible refine Below.setCell ?_ (by first | with_reducible exact Nat.le_refl _ | omega | (simp; done) | (simp; omega) | (simp [World.setCell]; omega) | (simp [World.setCell]; done)) _))) _ 1 _ _ [fate] [] rfl rfl (row_one _ _) (Rep.all_one_elem ⟨rfl, hf, rfl⟩) (Fresh.nil _ _) hb.size (by omega) (by decide) ?_; intro A2 c2 w2 hg2 hb2 hgr2)
      have hb3 := Below.trans (a := w) (by repeat (first | with_reducible exact Below.refl _ _ | with_reducible assumption | (with_reducible refine Below.drew ?_) | (with_reducible refine Below.alloc ?_ (by first | with_reducible exact Nat.le_refl _ | omega | (simp; done) | (simp; omega) | (simp [World.setCell]; omega) | (simp [World.setCell]; done)) _) | (with_reducible refine Below.setCell ?_ (by first | with_reducible exact Nat.le_refl _ | omega | (simp; done) | (simp; omega) | (simp [World.setCell]; omega) | (simp [World.setCell]; done)) _))) hb2
      have hg3 : Grow (Rep.int .i64) 2 w.heap.size w2 (.slice A2 (k + 1) c2) (k + 1) (List.replicate (k + 1) fate) := by rw [List.replicate_succ']; exact hg2
      exact ⟨⟨k + 1, A2, c2, by omega, by go_num, rfl, hg3, hb3⟩, by simp [intOf]; omega⟩
    · have e : k = 12 := by omega
      subst e
      have H := Grow.out hg hb
      clear hg hb
      go_wp2
      go_ret
      exact H
end Go.Proofs.Ytfehpceafnjmnaa
