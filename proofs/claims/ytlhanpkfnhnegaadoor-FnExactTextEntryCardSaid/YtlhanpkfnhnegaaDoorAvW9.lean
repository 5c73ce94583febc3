/- The plain law of TextOp: what the scanner reads is what the reference reads. -/
import Derived.Test.YtlhanpkfnhnegaaDoorAvW8
set_option linter.unusedVariables false
set_option linter.unusedSimpArgs false
set_option maxRecDepth 100000
namespace Go.Proofs.YtlhanpkfnhnegaaDoor
open Go.RowKit

/-! The scanner's numbers. -/
theorem scNum_ws (s : Sc) : (scNum s).2.ws = s.ws.tail := by
  rw [scNum_eq]
  obtain ⟨ws, b, a⟩ := s
  unfold scNum0 Sc.next Sc.cur
  cases ws <;> (split <;> rfl)
theorem scNum_good {s : Sc} {w : List UInt8} {r : List (List UInt8)} {v : Nat} (hw : s.ws = w :: r) (h : numOf w = some v) : (scNum s).1 = v ∧ (scNum s).2.bad = s.bad := by
  obtain ⟨ws, b, a⟩ := s
  simp only at hw
  subst hw
  rw [scNum_eq]
  unfold numOf at h
  split at h
  · rename_i hc
    injection h with h
    subst h
    rw [Bool.and_eq_true, decide_eq_true_eq] at hc
    have : ¬ ((numV w : Int) > 1000000000) := by omega
    simp only [scNum0, Sc.cur, Sc.next, List.headD_cons, hc.1, if_true, true_and]
    simp [this]
  · cases h
theorem scNum_bad {s : Sc} (h : (scNum s).2.bad = false) : s.bad = false ∧ ∃ w r v, s.ws = w :: r ∧ numOf w = some v := by
  obtain ⟨ws, b, a⟩ := s
  rw [scNum_eq] at h
  unfold scNum0 at h
  split at h
  · rename_i hd
    cases ws with
    | nil => exact absurd hd (by simp [Sc.cur, digB])
    | cons w r =>
      have h' : (b || decide ((numV w : Int) > 1000000000)) = false := h
      have hd : digB w 10 = true := hd
      rw [Bool.or_eq_false_iff, decide_eq_false_iff_not] at h'
      obtain ⟨hb, h2⟩ := h'
      refine ⟨hb, w, r, numV w, rfl, ?_⟩
      rw [numOf_good hd, if_pos (by omega)]
  · cases h
theorem scAt_ws (s : Sc) : ∀ n, (scAt s n).ws = s.ws.drop n
  | 0 => rfl
  | n + 1 => by rw [← scAt_succ, scNum_ws, scAt_ws s n, List.tail_drop]
/-- The words from j on begin with numerals. -/
def GoodN (ws : List (List UInt8)) (n : Nat) : Prop := ∀ j, j < n → ∃ w v, ws[j]? = some w ∧ numOf w = some v
theorem drop_cons_of {α : Type} {l : List α} {j : Nat} {x : α} (h : l[j]? = some x) : l.drop j = x :: l.drop (j + 1) := by
  obtain ⟨hj, rfl⟩ := List.getElem?_eq_some_iff.1 h
  exact List.drop_eq_getElem_cons hj
theorem scAt_good (s : Sc) : ∀ n, GoodN s.ws n → (scAt s n).bad = s.bad
  | 0, _ => rfl
  | n + 1, h => by
    obtain ⟨w, v, hw, hv⟩ := h n (by omega)
    have ih := scAt_good s n fun j hj => h j (by omega)
    rw [← scAt_succ, (scNum_good (by rw [scAt_ws, drop_cons_of hw]) hv).2, ih]
theorem scAt_bad (s : Sc) : ∀ n, (scAt s n).bad = false → s.bad = false ∧ GoodN s.ws n
  | 0, h => ⟨h, fun j hj => by omega⟩
  | n + 1, h => by
    rw [← scAt_succ] at h
    obtain ⟨h1, w, r, v, hw, hv⟩ := scNum_bad h
    obtain ⟨h2, h3⟩ := scAt_bad s n h1
    refine ⟨h2, fun j hj => ?_⟩
    by_cases e : j < n
    · exact h3 j e
    · have : j = n := by omega
      subst this
      rw [scAt_ws] at hw
      have h4 := congrArg List.head? hw
      rw [List.head?_drop] at h4
      exact ⟨w, v, by simpa using h4, hv⟩
theorem nAt_good {s : Sc} {j : Nat} {w : List UInt8} {v : Nat} (hw : s.ws[j]? = some w) (h : numOf w = some v) : nAt s j = v := by
  unfold nAt
  exact (scNum_good (by rw [scAt_ws, drop_cons_of hw]) h).1

/-! The text of an operation, by its words. -/
theorem dig_ne_32 {b : UInt8} (h : isDig b = true) : b ≠ 32 := by
  rintro rfl
  exact absurd h (by decide)
theorem no32_dec (n : Nat) : (32 : UInt8) ∉ Lib.decDigits n := fun h => dig_ne_32 (List.all_eq_true.1 (decDigits_facts n).1 _ h) rfl
theorem no32_itoa {x : Int} (h : 0 ≤ x) : (32 : UInt8) ∉ Lib.itoa x := by
  obtain ⟨n, rfl⟩ := Int.eq_ofNat_of_zero_le h
  rw [itoa_nat]; exact no32_dec n
theorem no32_opWord (k : Int) : (32 : UInt8) ∉ opWordL k := by
  unfold opWordL
  repeat' split
  all_goals decide
theorem join_spaced (w : List UInt8) (l : List Int) : joinL 32 (w :: l.map Lib.itoa) = w ++ spacedB l := by
  induction l generalizing w with
  | nil => simp [joinL, spacedB]
  | cons x r ih => rw [List.map_cons, joinL, ih]; simp [spacedB]
theorem opTextL_join {o : DOp} (h : opOk o = true) : opTextL o = joinL 32 (opWordL o.kind :: (opArgs o).map Lib.itoa) := by
  rw [join_spaced]; unfold opTextL; rw [if_pos h]
theorem opArgs_mem {o : DOp} (h : opOk o = true) : ∀ x ∈ opArgs o, 0 ≤ x ∧ x ≤ 1000000 := by
  intro x hx
  have hb := opOk_bounds h
  have := List.mem_of_mem_take hx
  simp only [List.mem_cons, List.not_mem_nil, or_false] at this
  rcases this with rfl | rfl | rfl | rfl
  · exact hb.2.1
  · exact hb.2.2.1
  · exact hb.2.2.2.1
  · exact hb.2.2.2.2
theorem opTextL_words {o : DOp} (h : opOk o = true) : wordsL 32 (opTextL o) = opWordL o.kind :: (opArgs o).map Lib.itoa := by
  rw [opTextL_join h]
  refine words_join (by simp) fun w hw => ?_
  rcases List.mem_cons.1 hw with rfl | hw
  · exact no32_opWord _
  · obtain ⟨x, hx, rfl⟩ := List.mem_map.1 hw
    exact no32_itoa (opArgs_mem h x hx).1
theorem opArgs_len' (o : DOp) : (opArgs o).length = opManyN o.kind := (opArgs_len o).1
theorem opArgs_get (o : DOp) {j : Nat} (h : j < opManyN o.kind) : (opArgs o)[j]? = [o.a, o.b, o.c, o.d][j]? := by
  unfold opArgs
  rw [List.getElem?_take, if_pos h]
theorem numOf_itoa {x : Int} (h : 0 ≤ x ∧ x ≤ 1000000) : numOf (Lib.itoa x) = some x.toNat := by
  obtain ⟨n, rfl⟩ := Int.eq_ofNat_of_zero_le h.1
  rw [itoa_nat]
  simpa using numOf_dec (n := n) (by omega)
theorem opTextL_len60 {o : DOp} (h : opOk o = true) : (opTextL o).length ≤ 60 := by
  unfold opTextL
  rw [if_pos h]
  have h1 : (opWordL o.kind).length ≤ 5 := by unfold opWordL; repeat' split
                                              all_goals decide
  have h2 : ∀ l : List Int, (∀ x ∈ l, 0 ≤ x ∧ x ≤ 1000000) → (spacedB l).length ≤ 8 * l.length := by
    intro l hl
    induction l with
    | nil => simp [spacedB]
    | cons x r ih =>
      have h3 := ih fun y hy => hl y (by simp [hy])
      have h4 := hl x (by simp)
      have h5 : (Lib.itoa x).length ≤ 7 := by
        obtain ⟨n, rfl⟩ := Int.eq_ofNat_of_zero_le h4.1
        rw [itoa_nat]
        exact decDigits_len (by omega) (by omega)
      simp only [spacedB, List.flatMap_cons, List.length_append, List.length_cons] at h3 ⊢
      omega
  have h6 := h2 (opArgs o) (opArgs_mem h)
  rw [opArgs_len'] at h6
  have := opManyN_le o.kind
  rw [List.length_append]; omega
theorem joinL_nil {c : UInt8} {w : List UInt8} {r : List (List UInt8)} (hw : w ≠ []) : joinL c (w :: r) ≠ [] := by
  cases r <;> simp [joinL, hw]
theorem opWordL_ne {k : Int} (h : 1 ≤ k ∧ k ≤ 5) : opWordL k ≠ [] := by
  rcases op_cases h with rfl | rfl | rfl | rfl | rfl <;> decide

/-- What is read of a text, as one says it: the operation whose text it is. -/
theorem scOp_start {l w0 : List UInt8} {r : List (List UInt8)} (hw : wordsL 32 l = w0 :: r) (hk : opKind w0 ≠ 0) :
    ∃ a, scOp (.start l) = (⟨opKind w0, numIf ⟨r, false, a⟩ (opManyN (opKind w0)) 0, numIf ⟨r, false, a⟩ (opManyN (opKind w0)) 1, numIf ⟨r, false, a⟩ (opManyN (opKind w0)) 2, numIf ⟨r, false, a⟩ (opManyN (opKind w0)) 3⟩, scAt ⟨r, false, a⟩ (opManyN (opKind w0))) := by
  have e : Sc.start l = ⟨w0 :: r, false, 0⟩ := by unfold Sc.start; rw [hw]
  rw [e]
  unfold scOp
  exact ⟨_, by rw [if_neg (show ¬ opKind (Sc.cur ⟨w0 :: r, false, 0⟩) = 0 from hk)]; rfl⟩
theorem scOp_none {l w0 : List UInt8} {r : List (List UInt8)} (hw : wordsL 32 l = w0 :: r) (hk : opKind w0 = 0) : (scOp (.start l)).2.over = false := by
  have e : Sc.start l = ⟨w0 :: r, false, 0⟩ := by unfold Sc.start; rw [hw]
  rw [e]
  unfold scOp
  rw [if_pos (show opKind (Sc.cur ⟨w0 :: r, false, 0⟩) = 0 from hk)]
  simp [Sc.over]
theorem numIf_good {s : Sc} {n j : Nat} (h : GoodN s.ws n) : numIf s n j = if j < n then (match s.ws[j]? with | some w => numN w | none => -1) else 0 := by
  unfold numIf
  split
  · rename_i hj
    obtain ⟨w, v, hw, hv⟩ := h j hj
    rw [nAt_good hw hv, hw]
    simp only [numN_yes hv]
  · rfl
theorem wNum_cons (w0 : List UInt8) (r : List (List UInt8)) (n j : Nat) : wNum (w0 :: r) n j = if j < n then (match r[j]? with | some w => numN w | none => -1) else 0 := by
  unfold wNum atN
  simp only [List.getElem?_cons_succ]
  rfl
theorem good_of_text {o : DOp} (h : opOk o = true) : GoodN ((opArgs o).map Lib.itoa) (opManyN o.kind) := by
  intro j hj
  rw [← opArgs_len'] at hj
  refine ⟨Lib.itoa (opArgs o)[j], ((opArgs o)[j]).toNat, by simp [hj], numOf_itoa (opArgs_mem h _ (List.getElem_mem hj))⟩
/-- Where the words are numerals, as many as the kind wants, both read the same operation, and its text is the words. -/
theorem text_of_good {w0 : List UInt8} {r : List (List UInt8)} (hk : opKind w0 ≠ 0) (hg : GoodN r (opManyN (opKind w0))) (hl : r.length = opManyN (opKind w0)) (hok : opOk (sOpOf (w0 :: r)) = true) : opTextL (sOpOf (w0 :: r)) = joinL 32 (w0 :: r) := by
  have hr := opKind_range w0
  rw [opTextL_join hok]
  have h1 : opWordL (opKind w0) = w0 := (opKind_word (by omega)).1 rfl
  have h2 : (opArgs (sOpOf (w0 :: r))).map Lib.itoa = r := by
    apply List.ext_getElem?
    intro j
    rw [List.getElem?_map]
    by_cases hj : j < opManyN (opKind w0)
    · have h3 : (opArgs (sOpOf (w0 :: r)))[j]? = some (wNum (w0 :: r) (opManyN (opKind w0)) j) := by
        rw [opArgs_get _ (show j < opManyN (sOpOf (w0 :: r)).kind from hj)]
        have h4 := opManyN_le (opKind w0)
        have : j = 0 ∨ j = 1 ∨ j = 2 ∨ j = 3 := by omega
        rcases this with rfl | rfl | rfl | rfl <;> rfl
      obtain ⟨w, v, hw, hv⟩ := hg j hj
      rw [h3, wNum_cons, if_pos hj, hw]
      simp only [numN_yes hv, Option.map_some, itoa_nat]
      rw [(numOf_iff.1 hv).1]
    · have h4 : (opArgs (sOpOf (w0 :: r))).length = opManyN (opKind w0) := opArgs_len' _
      rw [List.getElem?_eq_none (by omega), List.getElem?_eq_none (by omega)]; rfl
  rw [h2]
  show joinL 32 (opWordL (opKind w0) :: r) = _
  rw [h1]
theorem textOp_eq (l : List UInt8) : iTextOpL l = sTextOpL l := by
  obtain ⟨w0, r, hw⟩ := wordsL_split (c := 32) (s := l)
  have hj : joinL 32 (w0 :: r) = l := by rw [← hw, join_words]
  by_cases hk : opKind w0 = 0
  · have h1 : iTextOpL l = (opZ, false) := by unfold iTextOpL; rw [scOp_none hw hk]; rfl
    have h2 : sTextOpL l = (opZ, false) := by
      unfold sTextOpL; rw [hw]
      show (if 60 < l.length then (opZ, false) else if opKind w0 = 0 then (opZ, false) else if opTextL (sOpOf (w0 :: r)) = l then (sOpOf (w0 :: r), true) else (opZ, false)) = _
      rw [if_pos hk]; split <;> rfl
    rw [h1, h2]
  · obtain ⟨a, hs⟩ := scOp_start hw hk
    have h0 : sTextOpL l = if 60 < l.length then (opZ, false) else if opTextL (sOpOf (w0 :: r)) = l then (sOpOf (w0 :: r), true) else (opZ, false) := by
      unfold sTextOpL; rw [hw]
      show (if 60 < l.length then (opZ, false) else if opKind w0 = 0 then (opZ, false) else if opTextL (sOpOf (w0 :: r)) = l then (sOpOf (w0 :: r), true) else (opZ, false)) = _
      rw [if_neg hk]
    have hi0 : iTextOpL l = if (scAt ⟨r, false, a⟩ (opManyN (opKind w0))).over && opOk (scOp (.start l)).1 then ((scOp (.start l)).1, true) else (opZ, false) := by
      unfold iTextOpL; rw [hs]
    by_cases hg : GoodN r (opManyN (opKind w0))
    · have ho : (scOp (.start l)).1 = sOpOf (w0 :: r) := by
        rw [hs]
        simp only [sOpOf, List.headD_cons, numIf_good (s := ⟨r, false, a⟩) hg, wNum_cons]
      have hb : (scAt ⟨r, false, a⟩ (opManyN (opKind w0))).bad = false := scAt_good _ _ hg
      rw [hi0, ho, h0]
      by_cases hov : (scAt ⟨r, false, a⟩ (opManyN (opKind w0))).over = true
      · have hlen : r.length = opManyN (opKind w0) := by
          have h1 : r.drop (opManyN (opKind w0)) = [] := by
            have := hov
            simp only [Sc.over, Bool.and_eq_true, List.isEmpty_iff, scAt_ws] at this
            exact this.1
          have h2 : r.length ≤ opManyN (opKind w0) := List.drop_eq_nil_iff.1 h1
          rcases Nat.lt_or_ge r.length (opManyN (opKind w0)) with h3 | h3
          · obtain ⟨w, v, hw', _⟩ := hg r.length h3
            rw [List.getElem?_eq_none (Nat.le_refl _)] at hw'; cases hw'
          · omega
        rw [hov]
        by_cases hok : opOk (sOpOf (w0 :: r)) = true
        · have ht := text_of_good hk hg hlen hok
          have hlen2 := opTextL_len60 hok
          rw [ht, hj] at hlen2
          rw [hok, ht, hj, if_neg (show ¬ 60 < l.length by omega)]; simp
        · have hok' : opOk (sOpOf (w0 :: r)) = false := by simpa using hok
          have ht : opTextL (sOpOf (w0 :: r)) = [] := by unfold opTextL; rw [if_neg hok]
          have hr := opKind_range w0
          have hne : [] ≠ l := by
            rw [← hj]
            refine fun e => joinL_nil ?_ e.symm
            rw [← (opKind_word (w := w0) (j := opKind w0) (by omega)).1 rfl]
            exact opWordL_ne (by omega)
          rw [hok', ht, if_neg hne]; simp
      · have hov' : (scAt ⟨r, false, a⟩ (opManyN (opKind w0))).over = false := by simpa using hov
        rw [hov']
        have hne : opTextL (sOpOf (w0 :: r)) ≠ l := by
          intro ht
          by_cases hok : opOk (sOpOf (w0 :: r)) = true
          · have h1 := opTextL_words hok
            rw [ht, hw] at h1
            injection h1 with _ h1
            have h2 : r.length = opManyN (opKind w0) := by
              have := congrArg List.length h1
              rw [List.length_map, opArgs_len'] at this
              exact this
            apply hov
            simp only [Sc.over, scAt_ws, hb, Bool.not_false, Bool.and_true, List.isEmpty_iff]
            exact List.drop_eq_nil_of_le (Nat.le_of_eq h2)
          · have hr := opKind_range w0
            have ht2 : opTextL (sOpOf (w0 :: r)) = [] := by unfold opTextL; rw [if_neg hok]
            rw [ht2, ← hj] at ht
            refine joinL_nil ?_ ht.symm
            rw [← (opKind_word (w := w0) (j := opKind w0) (by omega)).1 rfl]
            exact opWordL_ne (by omega)
        rw [if_neg hne]; simp
    · have hov : (scAt ⟨r, false, a⟩ (opManyN (opKind w0))).over = false := by
        cases hb : (scAt ⟨r, false, a⟩ (opManyN (opKind w0))).bad with
        | true => unfold Sc.over; rw [hb]; simp
        | false => exact absurd (scAt_bad _ _ hb).2 hg
      rw [hi0, hov, h0]
      have hne : opTextL (sOpOf (w0 :: r)) ≠ l := by
        intro ht
        by_cases hok : opOk (sOpOf (w0 :: r)) = true
        · have h1 := opTextL_words hok
          rw [ht, hw] at h1
          injection h1 with _ h1
          apply hg
          rw [h1]
          exact good_of_text hok
        · have hr := opKind_range w0
          have ht2 : opTextL (sOpOf (w0 :: r)) = [] := by unfold opTextL; rw [if_neg hok]
          rw [ht2, ← hj] at ht
          refine joinL_nil ?_ ht.symm
          rw [← (opKind_word (w := w0) (j := opKind w0) (by omega)).1 rfl]
          exact opWordL_ne (by omega)
      rw [if_neg hne]; simp
end Go.Proofs.YtlhanpkfnhnegaaDoor
