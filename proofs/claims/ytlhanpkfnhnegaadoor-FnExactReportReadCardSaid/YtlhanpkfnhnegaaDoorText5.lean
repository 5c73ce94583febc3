/- The text of an operation, the reference's side. -/
import Derived.Test.YtlhanpkfnhnegaaDoorText3b
set_option linter.unusedVariables false
set_option linter.unusedSimpArgs false
set_option maxRecDepth 100000
namespace Go.Proofs.YtlhanpkfnhnegaaDoor
open Go.ChangeShapes Go.WideShapes Go.RowKit

theorem infoStr : (Tryd.prog.info? 9).map (fun i => (i.zero, i.size, i.bytes)) = some (some (.string ⟨#[]⟩), 1, 16) := by kernel_rfl
def mkB (s : List UInt8) : ByteArray := ⟨s.toArray⟩
theorem strs_all (w : World) : ∀ l : List ByteArray, Rep.str.all w (l.map Value.string) l []
  | [] => ⟨rfl, rfl⟩
  | a :: r => ⟨[.string a], r.map Value.string, [], [], rfl, rfl, ⟨rfl, rfl⟩, strs_all w r⟩
theorem strs_cells {w : World} : ∀ {l : List ByteArray} {cs : List Value} {F : List Nat}, Rep.str.all w cs l F → cs = l.map Value.string ∧ F = []
  | [], _, _, ⟨rfl, rfl⟩ => ⟨rfl, rfl⟩
  | a :: r, _, _, ⟨c, cs, F1, F2, rfl, rfl, ⟨hc, hF⟩, h⟩ => by
    obtain ⟨rfl, rfl⟩ := strs_cells h
    subst hF hc
    exact ⟨rfl, rfl⟩
theorem Row.grown {w w' : World} {g o : Nat} {xs : List Value} {row : Option Nat} (h : Row w (some ⟨g, o, none⟩) xs) (hg : w.grownBy w' row) (hne : some g ≠ row) : Row w' (some ⟨g, o, none⟩) xs := by
  intro j hj
  obtain ⟨b, off, e, hl, hc⟩ := h j hj
  injection e with e; injection e with e1 e2 e3
  subst e1 e2
  exact ⟨g, o, rfl, Nat.lt_of_lt_of_le hl hg.size, fun i u hu => hg.cell (hc i u hu) hne⟩
theorem Row.four {w : World} {g : Nat} {l : List Int} (h : Row w (some ⟨g, 0, none⟩) (l.map (Value.int .i64))) {k : Nat} (hk : k < l.length) : w.cell? ⟨g, k, none⟩ = some (.int .i64 l[k]) := by
  obtain ⟨b, o, e, hc⟩ := h.at_ (k := k) (by simpa using hk)
  injection e with e; injection e with e1 e2 e3
  subst e1 e2
  simpa using hc
theorem Grow.strRow {e : TypeId} {B : Nat} {w : World} {A : Option Addr} {cap n : Nat} {l : List (List UInt8)} (h : Grow Rep.str e B w (.slice A n cap) n (l.map mkB)) : Row w A (strVals l) := by
  obtain ⟨F, hr⟩ := Grow.res h
  obtain ⟨_, _, _, xs, F1, hrow, ha, _⟩ := Rep.sl_open hr.rd
  obtain ⟨rfl, _⟩ := strs_cells ha
  simpa [strVals, mkB, List.map_map, Function.comp_def] using hrow
theorem Grow.one_str {e : TypeId} {B : Nat} (w : World) (hB : B ≤ w.heap.size) (s : List UInt8) : Grow Rep.str e B (w.alloc (.cells #[.string ⟨s.toArray⟩] e)) (.slice (some ⟨w.heap.size, 0, none⟩) 1 1) 1 ([s].map mkB) :=
  ⟨rfl, [.string ⟨s.toArray⟩], [], ⟨rfl, .inr ⟨_, 1, #[.string ⟨s.toArray⟩], rfl, hB, heap_alloc_new w _, Nat.le_refl _, by unfold maxLen; omega, rfl, rfl⟩⟩, strs_all _ [mkB s], Fresh.nil _ _, by simp⟩
theorem wordsB_spaced (a : List UInt8) : ∀ l : List Int, wordsB [32] (a :: l.map Lib.itoa) = a ++ spacedB l := by
  intro l
  induction l generalizing a with
  | nil => simp [wordsB, spacedB]
  | cons x r ih =>
    have h := ih (Lib.itoa x)
    simp only [List.map_cons, wordsB, h]
    simp [spacedB]
theorem sl1IntZ_calls (x : Int) (w : World) (h0 : 0 ≤ x) (h1 : x ≤ 1000000000000) : Calls Tryd.prog 66 #[.int .i64 x] w (OutStr (Lib.itoa x) w) := by
  obtain ⟨n, rfl⟩ := Int.eq_ofNat_of_zero_le h0
  have := sl1Int_calls n w (by omega)
  rwa [← Lib.itoa_nonneg] at this
theorem opArgs_len (o : DOp) : (opArgs o).length = opManyN o.kind ∧ opManyN o.kind ≤ 4 := by
  have h : opManyN o.kind ≤ 4 := by
    unfold opManyN
    repeat' split
    all_goals omega
  exact ⟨by simp [opArgs]; omega, h⟩
theorem opArgs_bounds {o : DOp} (h : opOk o = true) : ∀ x ∈ opArgs o, 0 ≤ x ∧ x ≤ 1000000 := by
  have hb := opOk_bounds h
  intro x hx
  have := List.mem_of_mem_take hx
  simp only [List.mem_cons, List.not_mem_nil, or_false] at this
  omega
theorem opWordL_len (k : Int) : (opWordL k).length ≤ 5 := by
  unfold opWordL
  repeat' split
  all_goals simp
set_option maxHeartbeats 1000000 in
theorem sOpText_calls (o : DOp) (w : World) :
    Calls Tryd.prog 15 #[.agg #[.int .i64 o.kind, .int .i64 o.a, .int .i64 o.b, .int .i64 o.c, .int .i64 o.d]] w (OutStr (opTextL o) w) := by
  cases hok : opOk o
  · have e : opTextL o = [] := by unfold opTextL; rw [hok]; rfl
    rw [e]
    have H := Lib.hid hok
    clear hok e
    go_enter Tryd.func15, Tryd.ntmps15
    go_wp2_with fail
    refine (sOpOk_calls o _ false H.out).mono ?_
    rintro e W1 ⟨rfl, hb1⟩
    have hbw1 := Below.trans (a := w) (B := w.heap.size) (by repeat (first | with_reducible exact Below.refl _ _ | with_reducible assumption | (with_reducible refine Below.drew ?_) | (with_reducible refine Below.alloc ?_ (by first | with_reducible exact Nat.le_refl _ | omega | (simp; done) | (simp; omega) | (simp [World.setCell]; omega) | (simp [World.setCell]; done)) _) | (with_reducible refine Below.setCell ?_ (by first | with_reducible exact Nat.le_refl _ | omega | (simp; done) | (simp; omega) | (simp [World.setCell]; omega) | (simp [World.setCell]; done)) _))) (hb1.mono (by simp))
    clear hb1
    go_wp2_with fail
    go_ret
    exact ⟨rfl, hbw1⟩
  · have e : opTextL o = opWordL o.kind ++ spacedB (opArgs o) := by unfold opTextL; rw [hok]; rfl
    rw [e, ← wordsB_spaced]
    clear e
    have hbd := (opOk_bounds hok).1
    have hab := opArgs_bounds hok
    obtain ⟨hal, hm4⟩ := opArgs_len o
    have H := Lib.hid hok
    have HA := Lib.hid hab
    have HB := Lib.hid hbd
    clear hok hab hbd
    go_enter Tryd.func15, Tryd.ntmps15
    go_wp2_with fail
    refine (sOpOk_calls o _ true H.out).mono ?_
    rintro e W1 ⟨rfl, hb1⟩
    have hx1 : Row W1 (some ⟨w.heap.size, 0, none⟩) [.int .i64 o.kind, .int .i64 o.a, .int .i64 o.b, .int .i64 o.c, .int .i64 o.d] := (Row.new w _ 25).below hb1
    obtain ⟨k10, k11, k12, k13, k14⟩ := hx1.five
    have hbw1 := Below.trans (a := w) (B := w.heap.size) (by repeat (first | with_reducible exact Below.refl _ _ | with_reducible assumption | (with_reducible refine Below.drew ?_) | (with_reducible refine Below.alloc ?_ (by first | with_reducible exact Nat.le_refl _ | omega | (simp; done) | (simp; omega) | (simp [World.setCell]; omega) | (simp [World.setCell]; done)) _) | (with_reducible refine Below.setCell ?_ (by first | with_reducible exact Nat.le_refl _ | omega | (simp; done) | (simp; omega) | (simp [World.setCell]; omega) | (simp [World.setCell]; done)) _))) (hb1.mono (by simp))
    have hz1 : w.heap.size + 1 ≤ W1.heap.size := by simpa using hb1.size
    clear hb1
    go_wp2_with fail
    refine (sOpWord_calls o.kind _).mono ?_
    rintro e W2 ⟨rfl, hb2⟩
    have hx2 := hx1.below hb2
    have hbw2 := hbw1.trans (hb2.mono (by omega))
    have hz2 : W1.heap.size ≤ W2.heap.size := hb2.size
    clear hx1 k10 k11 k12 k13 k14 hbw1 hb2
    obtain ⟨k20, k21, k22, k23, k24⟩ := hx2.five
    have hlt : w.heap.size < W2.heap.size := by omega
    have hne : ¬ w.heap.size = W2.heap.size := by omega
    go_wp2
    generalize hm : opManyN o.kind = m at *
    have HM := Lib.hid hm
    go_loopw [3, 5] (fun ws i wr => ∃ (k : Nat) (A : Option Addr) (c : Nat), k ≤ m ∧ i = .int .i64 k ∧ ws = .slice A (k + 1) c ∧
      Grow Rep.str 9 W2.heap.size wr (.slice A (k + 1) c) (k + 1) ((opWordL o.kind :: ((opArgs o).take k).map Lib.itoa).map mkB) ∧
      Row wr (some ⟨W2.heap.size + 1, 0, none⟩) ([o.a, o.b, o.c, o.d].map (Value.int .i64)) ∧ (Value.slice A (k + 1) c).ownBlock ≠ some (W2.heap.size + 1) ∧ W2.heap.size + 2 ≤ wr.heap.size ∧ Below W2.heap.size W2 wr) (fun _ i _ => m - (intOf i).toNat)
    case atStart =>
      refine ⟨0, _, _, Nat.zero_le _, rfl, rfl, ?_, ?_, ?_, ?_, (by repeat (first | with_reducible exact Below.refl _ _ | with_reducible assumption | (with_reducible refine Below.drew ?_) | (with_reducible refine Below.alloc ?_ (by first | with_reducible exact Nat.le_refl _ | omega | (simp; done) | (simp; omega) | (simp [World.setCell]; omega) | (simp [World.setCell]; done)) _) | (with_reducible refine Below.setCell ?_ (by first | with_reducible exact Nat.le_refl _ | omega | (simp; done) | (simp; omega) | (simp [World.setCell]; omega) | (simp [World.setCell]; done)) _)))⟩
      · exact Grow.alloc (Grow.one_str W2 (Nat.le_refl _) (opWordL o.kind)) _
      · exact (row_one_at (by first | rfl | (simp; done) | simp [World.setCell]))
      · simp [Value.ownBlock]
      · simp
    case round =>
      obtain ⟨k, A, c, hk, rfl, rfl, hg, hr, hne, hsz, hb⟩ := hrel
      have hx3 := hx2.below hb
      obtain ⟨k30, k31, k32, k33, k34⟩ := hx3.five
      clear hx2 k20 k21 k22 k23 k24
      go_wp2_with fail
      refine (sl32OpMany_calls o.kind _ HB.out).mono ?_
      rintro e W3 ⟨rfl, hb3⟩
      have hg3 := hg.below hb3
      have hr3 := hr.below hb3
      have hz3 := hb3.size
      have hbb := hb.trans (hb3.mono (by omega))
      rw [HM.out]
      clear hx3 k30 k31 k32 k33 k34 hg hr hb hb3
      by_cases hkm : k < m
      · have h4 : k < [o.a, o.b, o.c, o.d].length := by simp; omega
        have hcell := hr3.four h4
        have hx : (opArgs o).take (k + 1) = (opArgs o).take k ++ [[o.a, o.b, o.c, o.d][k]] := by
          have hkl : k < (opArgs o).length := by omega
          rw [take_succ_get hkl]
          congr 2
          simp [opArgs]
        have hxb : 0 ≤ [o.a, o.b, o.c, o.d][k] ∧ [o.a, o.b, o.c, o.d][k] ≤ 1000000 := HA.out _ (List.mem_of_mem_take (i := k + 1) (by rw [hx]; simp))
        generalize [o.a, o.b, o.c, o.d][k] = x at *
        have HX := Lib.hid hx
        clear hx h4
        go_wp2_with fail
        refine (sl1IntZ_calls x _ hxb.1 (by omega)).mono ?_
        rintro e W4 ⟨rfl, hb4⟩
        have hg4 := hg3.below hb4
        have hr4 := hr3.below hb4
        have hz4 := hb4.size
        have hbc := hbb.trans (hb4.mono (by omega))
        clear hg3 hr3 hbb hb4 hcell
        go_wp2_with (at_builtin; refine wpList_growE (R := Rep.str) rfl _ _ 93 rfl W4 9 W2.heap.size W2.heap.size Tryd.underlying93 infoStr rfl (by decide) _ (k + 1) _ rfl hg4 (by repeat (first | with_reducible exact Below.refl _ _ | with_reducible assumption | (with_reducible refine Below.drew ?_) | (with_reducible refine Below.alloc ?_ (by first | with_reducible exact Nat.le_refl _ | omega | (simp; done) | (simp; omega) | (simp [World.setCell]; omega) | (simp [World.setCell]; done)) _) | (with_reducible refine Below.setCell ?_ (by first | with_reducible exact Nat.le_refl _ | omega | (simp; done) | (simp; omega) | (simp [World.setCell]; omega) | (simp [World.setCell]; done)) _))) _ 1 _ _ [mkB (Lib.itoa x)] [] rfl rfl (row_one _ _) (strs_all _ [_]) (Fresh.nil _ _) (by simp) (Nat.le_refl _) (by omega) (by omega) (by decide) ?_; intro A2 c2 w2 hg5 hb5 hgr5 hown5)
        have hbd : Below W2.heap.size W2 w2 := Below.trans (a := W2) (B := W2.heap.size) (Below.alloc hbc (by omega) _) hb5
        have hz5 : W4.heap.size + 1 ≤ w2.heap.size := by simpa using hgr5.size
        refine ⟨⟨k + 1, A2, c2, by omega, by go_num, rfl, ?_, ?_, ?_, by omega, hbd⟩, by simp [intOf]; omega⟩
        · rw [HX.out, List.map_append, List.map_cons, List.map_append]
          simpa using hg5
        · exact Row.grown (Row.below (w' := W4.alloc _) hr4 (by repeat (first | with_reducible exact Below.refl _ _ | with_reducible assumption | (with_reducible refine Below.drew ?_) | (with_reducible refine Below.alloc ?_ (by first | with_reducible exact Nat.le_refl _ | omega | (simp; done) | (simp; omega) | (simp [World.setCell]; omega) | (simp [World.setCell]; done)) _) | (with_reducible refine Below.setCell ?_ (by first | with_reducible exact Nat.le_refl _ | omega | (simp; done) | (simp; omega) | (simp [World.setCell]; omega) | (simp [World.setCell]; done)) _)))) hgr5 (fun h => hne h.symm)
        · rcases hown5 with h | h
          · rw [h]; exact hne
          · rw [h]; simp; omega
      · have e : k = m := by omega
        subst e
        have hrow := Grow.strRow hg3
        rw [List.take_of_length_le (by omega)] at hrow
        have hlen : (wordsB [32] (opWordL o.kind :: (opArgs o).map Lib.itoa)).length ≤ 1000000000 := by
          rw [wordsB_spaced, List.length_append]
          have h1 := opWordL_len o.kind
          have h2 := spacedB_len (opArgs o) (fun x hx => i64_wf (by have := HA.out x hx; omega) (by have := HA.out x hx; omega))
          omega
        have hbe := hbw2.trans (hbb.mono (by omega))
        clear hg3 hr3 hbb
        go_wp2_with fail
        refine (sl1Words_calls (opWordL o.kind :: (opArgs o).map Lib.itoa) [32] A (k + 1) c _ hrow (by simp; omega) (by simp; omega) hlen (by decide)).mono ?_
        rintro e W5 ⟨rfl, rfl⟩
        go_wp2_with fail
        go_ret
        exact ⟨rfl, hbe⟩
end Go.Proofs.YtlhanpkfnhnegaaDoor
