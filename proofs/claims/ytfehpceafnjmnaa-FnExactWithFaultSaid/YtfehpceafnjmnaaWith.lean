/- Copies of lists of steps in the reference; a fault inserted. -/
import Derived.Test.YtfehpceafnjmnaaFaultImpl
import Derived.Test.YtfehpceafnjmnaaSteps
set_option linter.unusedVariables false
set_option linter.unusedSimpArgs false
set_option maxRecDepth 100000
namespace Go.Proofs.Ytfehpceafnjmnaa
open Go.ChangeShapes Go.WideShapes Go.RowKit

set_option maxHeartbeats 1000000 in
theorem sl31Copy_calls (l : List DStep) (A : Option Addr) (n cap : Nat) (F : List Nat) (w : World) (h : (Rep.sl Rep.DStep).rd w [.slice A n cap] l F) (hl : l.length ≤ 100000000)
    (hf : ∀ s ∈ l, s.fates.length ≤ 100000000) :
    Calls Try.prog 37 #[.slice A n cap] w (OutGrow Rep.DStep 44 l w) := by
  obtain ⟨rfl, _, hcm, xs, F1, hr, ha, _⟩ := Rep.sl_open h
  clear h
  go_enter Try.func37, Try.ntmps37
  go_wp2
  go_loopw [3, 4, 5] (fun out i _ wr => ∃ (k : Nat) (A' : Option Addr) (c' : Nat), k ≤ l.length ∧ i = .int .i64 (k : Nat) ∧ out = .slice A' k c' ∧ Grow Rep.DStep 44 w.heap.size wr (.slice A' k c') k (l.take k) ∧ Below w.heap.size w wr) (fun _ i _ _ => l.length - (intOf i).toNat)
  case atStart => exact ⟨0, _, _, Nat.zero_le _, rfl, rfl, Grow.empty _ _ _ (Nat.le_refl _), (by repeat (first | with_reducible exact Below.refl _ _ | with_reducible assumption | (with_reducible refine Below.drew ?_) | (with_reducible refine Below.alloc ?_ (by first | with_reducible exact Nat.le_refl _ | omega | (simp; done) | (simp; omega) | (simp [World.setCell]; omega) | (simp [World.setCell]; done)) _) | (with_reducible refine Below.setCell ?_ (by first | with_reducible exact Nat.le_refl _ | omega | (simp; done) | (simp; omega) | (simp [World.setCell]; omega) | (simp [World.setCell]; done)) _)))⟩
  case round =>
    obtain ⟨k, B', c', hk, rfl, rfl, hg, hb⟩ := hrel
    by_cases hlt : k < l.length
    · have hraux := hr.below hb
      have haux := Rep.all_keep (w' := wr) ha fun b hm => hb.block b (Rep.all_lt ha b hm)
      obtain ⟨b, off, A0, cap0, F0, rfl, c0, c1, c2, c3, c4, w0, w1, w2, w3, h0, hF⟩ := DStep_at hraux haux hlt
      have hsf := hf l[k] (List.getElem_mem hlt)
      clear haux hraux hr ha hf
      go_wp2_with fail
      refine (sl1Copy_calls l[k].fates _ F0 _ (Rep.below_all h0 (by repeat (first | with_reducible exact Below.refl _ _ | with_reducible assumption | (with_reducible refine Below.drew ?_) | (with_reducible refine Below.alloc ?_ (by first | with_reducible exact Nat.le_refl _ | omega | (simp; done) | (simp; omega) | (simp [World.setCell]; omega) | (simp [World.setCell]; done)) _) | (with_reducible refine Below.setCell ?_ (by first | with_reducible exact Nat.le_refl _ | omega | (simp; done) | (simp; omega) | (simp [World.setCell]; omega) | (simp [World.setCell]; done)) _)))) (by omega)).mono ?_
      rintro e W1 ⟨A1, cap1, F2, rfl, hrd1, hfr1, hb1⟩
      obtain ⟨hc, hf⟩ := bcell hb1
      have hbw : Below wr.heap.size wr W1 := Below.trans (b := wr.alloc _) (by repeat (first | with_reducible exact Below.refl _ _ | with_reducible assumption | (with_reducible refine Below.drew ?_) | (with_reducible refine Below.alloc ?_ (by first | with_reducible exact Nat.le_refl _ | omega | (simp; done) | (simp; omega) | (simp [World.setCell]; omega) | (simp [World.setCell]; done)) _) | (with_reducible refine Below.setCell ?_ (by first | with_reducible exact Nat.le_refl _ | omega | (simp; done) | (simp; omega) | (simp [World.setCell]; omega) | (simp [World.setCell]; done)) _))) (hb1.mono (by simp))
      have hfr2 : Fresh (wr.heap.size + 1) W1 F2 := by simpa using hfr1
      have hres : Res (Rep.sl (Rep.int .i64)) (wr.heap.size + 1) W1 [.slice A1 l[k].fates.length cap1] l[k].fates F2 := ⟨hrd1, hfr2⟩
      have hbW : Below w.heap.size w W1 := hb.trans (hbw.mono hb.size)
      have hz := hb.size
      have hz1 : wr.heap.size + 1 ≤ W1.heap.size := by simpa using hb1.size
      clear hb1 hfr1 h0 hF hrd1 hfr2
      go_wp2_with (at_builtin; go_must (refine wpList_grow (R := Rep.DStep) rfl _ _ 26 rfl wr 44 w.heap.size Try.underlying26 infoStep rfl (by decide) _ k (l.take k) rfl hg (by repeat (first | with_reducible exact Below.refl _ _ | with_reducible assumption | (with_reducible refine Below.drew ?_) | (with_reducible refine Below.alloc ?_ (by first | with_reducible exact Nat.le_refl _ | omega | (simp; done) | (simp; omega) | (simp [World.setCell]; omega) | (simp [World.setCell]; done)) _) | (with_reducible refine Below.setCell ?_ (by first | with_reducible exact Nat.le_refl _ | omega | (simp; done) | (simp; omega) | (simp [World.setCell]; omega) | (simp [World.setCell]; done)) _))) _ 1 _ _ [l[k]] F2 rfl rfl (row_one_at (by first | rfl | (simp; done) | simp [World.setCell])) (Rep.all_one_elem (DStep_res (B := wr.heap.size + 1) w0 w1 w2 w3 (by repeat (first | with_reducible assumption | (with_reducible refine Res.setCell_lo ?_ (by first | with_reducible exact Nat.le_refl _ | omega | (simp; done) | (simp; omega) | (simp [World.setCell]; omega) | (simp [World.setCell]; done)) _) | (with_reducible refine Res.alloc ?_ _) | (with_reducible refine Res.drew ?_)))).rd) (DStep_res (B := wr.heap.size) w0 w1 w2 w3 (Res.mono (B := wr.heap.size + 1) (by repeat (first | with_reducible assumption | (with_reducible refine Res.setCell_lo ?_ (by first | with_reducible exact Nat.le_refl _ | omega | (simp; done) | (simp; omega) | (simp [World.setCell]; omega) | (simp [World.setCell]; done)) _) | (with_reducible refine Res.alloc ?_ _) | (with_reducible refine Res.drew ?_))) (by omega))).fresh hb.size (by omega) (by decide) ?_); intro A2 c2 w2' hg2 hb2 hgr2)
      have hb3 := Below.trans (a := w) (by repeat (first | with_reducible exact Below.refl _ _ | with_reducible assumption | (with_reducible refine Below.drew ?_) | (with_reducible refine Below.alloc ?_ (by first | with_reducible exact Nat.le_refl _ | omega | (simp; done) | (simp; omega) | (simp [World.setCell]; omega) | (simp [World.setCell]; done)) _) | (with_reducible refine Below.setCell ?_ (by first | with_reducible exact Nat.le_refl _ | omega | (simp; done) | (simp; omega) | (simp [World.setCell]; omega) | (simp [World.setCell]; done)) _))) hb2
      clear hb2 hgr2
      have hg3 : Grow Rep.DStep 44 w.heap.size w2' (.slice A2 (k + 1) c2) (k + 1) (l.take (k + 1)) := by rw [take_succ_get hlt]; exact hg2
      clear hg2 hg
      exact ⟨⟨k + 1, A2, c2, by omega, by go_num, rfl, hg3, hb3⟩, by simp [intOf]; omega⟩
    · have e : k = l.length := by omega
      subst e
      rw [List.take_length] at hg
      have H : OutGrow Rep.DStep 44 l w (.returned (.slice B' l.length c')) wr := ⟨_, _, rfl, hg, hb⟩
      clear hg hb hr ha hf
      go_wp2
      go_ret
      exact H

/-- A cut of a slice, as the model makes it. -/
theorem sliced_to (A : Option Addr) (k cap s : Nat) : sliced A 0 k cap s = .slice A k cap := by
  unfold sliced
  cases A <;> simp [Addr.add]
theorem Rep.sl_take {α : Type} {R : Rep α} {w : World} {A : Option Addr} {n cap : Nat} {l : List α} {F : List Nat} (h : R.sl.rd w [.slice A n cap] l F) {k : Nat} (hk : k ≤ l.length) : ∃ G, R.sl.rd w [.slice A k cap] (l.take k) G := by
  obtain ⟨rfl, h1, h2, xs, F1, hr, ha, rfl⟩ := Rep.sl_open h
  obtain ⟨F3, h3, _⟩ := Rep.all_take ha k hk
  refine ⟨_, A, cap, xs.take (k * R.size), F3, by simp; omega, by simp; omega, h2, ?_, h3, rfl⟩
  intro j hj
  obtain ⟨b, off, e, hl, hc⟩ := hr j (by simp at hj; omega)
  exact ⟨b, off, e, hl, fun i u hu => hc i u (by rw [List.getElem?_take] at hu; split at hu; exact hu; cases hu)⟩
theorem Rep.sl_drop {α : Type} {R : Rep α} {w : World} {A : Option Addr} {n cap : Nat} {l : List α} {F : List Nat} (h : R.sl.rd w [.slice A n cap] l F) {k : Nat} (hk : k ≤ l.length) (t : Nat) (ht : t = R.size) :
    ∃ A' cap' G, sliced A k n cap t = .slice A' (n - k) cap' ∧ R.sl.rd w [.slice A' (n - k) cap'] (l.drop k) G := by
  subst ht
  obtain ⟨rfl, h1, h2, xs, F1, hr, ha, rfl⟩ := Rep.sl_open h
  obtain ⟨F3, h3, _⟩ := Rep.all_drop ha k hk
  have hxl := Rep.all_len ha
  refine ⟨if cap = k then A else A.map (·.add (k * R.size)), cap - k, headOf (if cap = k then A else A.map (·.add (k * R.size))) (xs.drop (k * R.size)) ++ F3, ?_, _, _, xs.drop (k * R.size), F3, by rw [List.length_drop], by rw [List.length_drop]; omega, by unfold maxLen at h2 ⊢; omega, ?_, h3, rfl⟩
  · unfold sliced
    by_cases hck : cap = k
    · simp [hck]
    · simp [hck]
  · intro j hj
    rw [List.length_drop] at hj
    obtain ⟨b, off, rfl, hl, hc⟩ := hr (k * R.size + j) (by omega)
    have hkl : k < l.length := by
      rcases Nat.lt_or_ge k l.length with h | h
      · exact h
      · have : l.length * R.size ≤ k * R.size := Nat.mul_le_mul_right _ h
        omega
    rw [if_neg (by omega)]
    refine ⟨b, off + k * R.size, ?_, hl, fun i u hu => ?_⟩
    · simp only [Option.map_some, Addr.add]
      split
      · rename_i h0; rw [h0]; rfl
      · rfl
    · rw [List.getElem?_drop] at hu
      rw [Nat.add_assoc]
      exact hc _ u hu

def withL (l : List DStep) (a : Int) (f : List DStep) : List DStep :=
  if f.length = 0 ∨ 600 < l.length + f.length ∨ ¬ (0 ≤ a ∧ a ≤ l.length) then [] else l.take a.toNat ++ f ++ l.drop a.toNat
theorem empty_out (w w0 : World) (t : TypeId) (hb : Below w0.heap.size w0 w) : OutSl Rep.DStep [] w0 (.returned (.slice (some ⟨w.heap.size, 0, none⟩) 0 0)) (w.alloc (.cells #[] t)) :=
  ⟨_, 0, [], rfl, ⟨_, 0, [], [], rfl, Nat.le_refl _, Nat.zero_le _, fun j hj => absurd hj (Nat.not_lt_zero _), ⟨rfl, rfl⟩, rfl⟩, Fresh.nil _ _, hb.alloc hb.size _⟩
theorem nil_out (w w0 : World) (hb : Below w0.heap.size w0 w) : OutSl Rep.DStep [] w0 (.returned (.slice none 0 0)) w :=
  ⟨_, 0, [], rfl, ⟨none, 0, [], [], rfl, Nat.le_refl _, Nat.zero_le _, fun j hj => absurd hj (Nat.not_lt_zero _), ⟨rfl, rfl⟩, rfl⟩, Fresh.nil _ _, hb⟩

theorem run_slice_from {P : Program} {t : TypeId} {e : TypeId} {i : TypeInfo} (ht : P.underlying t = some (.slice e)) (he : P.elem t = e) (s : Nat) (hi : P.info? e = some i) (hs : i.size = s)
    (A : Option Addr) (n cap k : Nat) (hk : k ≤ n) (W : World) : (Instr.slice t (.slice A n cap) (some (.int .i64 (k : Int))) none none).run P W = .ok (sliced A k n cap s) W := by
  subst he
  have h := run_slice_l (P := P) W t A n cap ht .i64 (k : Int) (by omega) (by omega)
  rw [h]
  simp [sizeOf, typeInfo, hi, hs]
theorem faultL_len (k : Int) : (faultL k).length ≤ 4 := by
  by_cases h : 0 ≤ k ∧ k ≤ 13
  · rcases fault_cases h with rfl | rfl | rfl | rfl | rfl | rfl | rfl | rfl | rfl | rfl | rfl | rfl | rfl | rfl
    all_goals decide
  · have e : faultL k = [] := by unfold faultL; repeat rw [if_neg (by omega)]
    rw [e]
    decide

set_option maxHeartbeats 2000000 in
theorem sWithFault_calls (l : List DStep) (A : Option Addr) (n cap : Nat) (F : List Nat) (a k : Int) (w : World) (h : (Rep.sl Rep.DStep).rd w [.slice A n cap] l F) (hl : l.length ≤ 10000000)
    (hf : ∀ s ∈ l, s.fates.length ≤ 100000000) :
    Calls Try.prog 17 #[.slice A n cap, .int .i64 a, .int .i64 k] w (OutSl Rep.DStep (withL l a (faultL k)) w) := by
  have hc := fun W => sFaultOf_calls k W
  have hfl := faultL_len k
  generalize faultL k = f at hc hfl
  have HC := Lib.hid hc
  clear hc
  obtain ⟨rfl, hcl, hcm, _⟩ := Rep.sl_open h
  unfold maxLen at hcm
  go_enter Try.func17, Try.ntmps17
  go_wp2_with fail
  refine (HC.out _).mono ?_; rintro e W1 ⟨A1, c1, F1, rfl, h1, hf1, hb1⟩
  obtain ⟨_, hc1, hm1, xs1, G1, hr1, ha1, hF1⟩ := Rep.sl_open h1
  unfold maxLen at hm1
  by_cases t1 : f.length = 0
  · have e : withL l a f = [] := by unfold withL; rw [if_pos (.inl t1)]
    have E := Lib.hid e
    have t1' : ((f.length : Int) == 0) = true := by simp [t1]
    clear t1 e hr1 ha1 hc1
    go_wp2_with fail
    go_ret
    rw [E.out]; exact empty_out _ _ _ hb1
  · have t1' : ((f.length : Int) == 0) = false := beq_eq_false_iff_ne.2 (by omega)
    by_cases t2 : 600 < l.length + f.length
    · have e : withL l a f = [] := by unfold withL; rw [if_pos (.inr (.inl t2))]
      have E := Lib.hid e
      have t2' : decide ((600 : Int) < l.length + f.length) = true := decide_eq_true (by omega)
      clear t1 t2 e hr1 ha1 hc1
      go_wp2_with fail
      go_ret
      rw [E.out]; exact empty_out _ _ _ hb1
    · have t2' : decide ((600 : Int) < l.length + f.length) = false := decide_eq_false (by omega)
      have t2b : l.length + f.length ≤ 600 := by omega
      by_cases t3 : 0 ≤ a ∧ a ≤ l.length
      · obtain ⟨j, rfl⟩ := Int.eq_ofNat_of_zero_le t3.1
        have hj : j ≤ l.length := by omega
        have e : withL l j f = l.take j ++ f ++ l.drop j := by unfold withL; rw [if_neg (by omega)]; simp
        have E := Lib.hid e
        have hbt := Lib.hid (betweenB_true t3.1 t3.2)
        have h' := Rep.below_all h hb1
        clear t1 t2 e t3
        obtain ⟨G, hG⟩ := Rep.sl_take h' hj
        go_wp2_with (go_at_call 36; refine (l1In_calls _ _ _ _ true hbt.out).mono ?_; rintro e w' ⟨rfl, rfl⟩)
        refine (sl31Copy_calls (l.take j) A j cap G _ hG (by simp; omega) (fun s hs => hf s (List.mem_of_mem_take hs))).mono ?_; rintro e W2 ⟨A2, c2, rfl, hg2, hb2⟩
        have hlt : (l.take j).length = j := by simp; omega
        have hbw := hb1.trans (hb2.mono hb1.size)
        have hr2 := hr1.below hb2
        have ha2 := Rep.all_keep (w' := W2) ha1 fun b hm => hb2.block b (Rep.all_lt ha1 b hm)
        have hF1g : ∀ b ∈ G1, b ∈ F1 := fun b hb => by rw [hF1]; exact List.mem_append_right _ hb
        have hfr2 : Fresh w.heap.size W2 G1 := (hf1.below hb2).sub (by rw [hF1]; exact List.sublist_append_right _ _)
        have hlt1 := hf1.lt
        obtain ⟨A5, c5, G5, e5, h5⟩ := Rep.sl_drop h hj 5 rfl
        obtain ⟨i0, hi0, _, hi1, _⟩ := info_parts infoStep
        have hsl := fun W => run_slice_from (P := Try.prog) Try.underlying26 rfl 5 hi0 hi1 A l.length cap j hj W
        rw [e5] at hsl
        clear hi0 hi1
        have h5x : ∀ W : World, Below w.heap.size w W → (Rep.sl Rep.DStep).rd W [.slice A5 (l.length - j) c5] (l.drop j) G5 := fun W hW => Rep.below_all h5 hW
        clear hG h1 h' hr1 ha1 hf1 hF1 e5 h5
        rw [hlt] at hg2
        rw [hlt]
        go_wp2_with (at_builtin; go_must (refine wpList_growD (R := Rep.DStep) rfl _ _ 26 rfl W2 44 w.heap.size W1.heap.size Try.underlying26 infoStep rfl (by decide) _ j (l.take j) rfl hg2 (Below.refl _ _) A1 f.length c1 xs1 f G1 rfl rfl hr2 ha2 hfr2 (fun b hb => .inl (hlt1 b (hF1g b hb))) hb1.size hb2.size (by omega) (by decide) ?_); intro A3 c3 W3 hg3 hb3 hgr3)
        have hb23 := hbw.trans hb3
        have h5' : (Rep.sl Rep.DStep).rd W3 [.slice A5 (l.length - j) c5] (l.drop j) G5 := h5x W3 hb23
        refine (sl31Copy_calls (l.drop j) A5 (l.length - j) c5 G5 _ h5' (by simp; omega) (fun s hs => hf s (List.mem_of_mem_drop hs))).mono ?_; rintro e W4 ⟨A6, c6, rfl, hg6, hb6⟩
        obtain ⟨F6, hr6⟩ := Grow.res hg6
        obtain ⟨_, _, _, xs6, G6, hr6', ha6, hF6⟩ := Rep.sl_open hr6.rd
        have hfr6 : Fresh W3.heap.size W4 G6 := hr6.fresh.sub (by rw [hF6]; exact List.sublist_append_right _ _)
        have hb34 := hb23.trans (hb6.mono hb23.size)
        clear h5x h5' hr6 hg6 hF6 hsl
        go_wp2_with (at_builtin; go_must (refine wpList_growD (R := Rep.DStep) rfl _ _ 26 rfl W3 44 w.heap.size w.heap.size Try.underlying26 infoStep rfl (by decide) _ (j + f.length) (l.take j ++ f) rfl hg3 hb6 A6 (l.length - j) c6 xs6 (l.drop j) G6 rfl (by simp) hr6' ha6 (hfr6.mono hb23.size) (fun b hb => .inr (hfr6.2 b hb).1) (Nat.le_refl _) hb23.size (by omega) (by decide) ?_); intro A7 c7 W7 hg7 hb7 hgr7)
        have H : OutSl Rep.DStep (l.take j ++ f ++ l.drop j) w (.returned (.slice A7 (j + f.length + (l.length - j)) c7)) W7 := Grow.out hg7 (hb34.trans hb7)
        rw [← E.out] at H
        clear hg7 hb7 hgr7 hb34 hg3 hb3
        go_ret
        exact H
      · have e : withL l a f = [] := by unfold withL; rw [if_pos (.inr (.inr t3))]
        have E := Lib.hid e
        have hbf := Lib.hid (betweenB_false t3)
        clear t1 t2 t3 e hr1 ha1
        go_wp2_with (go_at_call 36; refine (l1In_calls _ _ _ _ false hbf.out).mono ?_; rintro e w' ⟨rfl, rfl⟩)
        go_ret
        rw [E.out]; exact empty_out _ _ _ hb1
end Go.Proofs.Ytfehpceafnjmnaa
