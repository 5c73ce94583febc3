/- TextEntry: the plain law, the law. -/
import Derived.Test.YtlhanpkfnhnegaaDoorAvWD
set_option linter.unusedVariables false
set_option linter.unusedSimpArgs false
set_option maxRecDepth 100000
namespace Go.Proofs.YtlhanpkfnhnegaaDoor
open Go.RowKit

def Eqv (s t : Sc) : Prop := s.ws = t.ws ∧ s.bad = t.bad
theorem next_eqv {s t : Sc} (h : Eqv s t) : Eqv s.next t.next := by
  obtain ⟨ws, b, a⟩ := s
  obtain ⟨ws', b', a'⟩ := t
  obtain ⟨h1, h2⟩ := h
  simp only at h1 h2
  subst h1 h2
  cases ws <;> exact ⟨rfl, rfl⟩
theorem cur_eqv {s t : Sc} (h : Eqv s t) : s.cur = t.cur := by unfold Sc.cur; rw [h.1]
theorem scNum_eqv {s t : Sc} (h : Eqv s t) : (scNum s).1 = (scNum t).1 ∧ Eqv (scNum s).2 (scNum t).2 := by
  have hn := next_eqv h
  rw [scNum_eq, scNum_eq]
  unfold scNum0
  rw [cur_eqv h]
  split
  · exact ⟨rfl, hn.1, by simp only; rw [hn.2]⟩
  · exact ⟨rfl, hn.1, rfl⟩
theorem scAt_eqv {s t : Sc} (h : Eqv s t) : ∀ n, Eqv (scAt s n) (scAt t n)
  | 0 => h
  | n + 1 => by rw [← scAt_succ, ← scAt_succ]; exact (scNum_eqv (scAt_eqv h n)).2
theorem numIf_eqv {s t : Sc} (h : Eqv s t) (n j : Nat) : numIf s n j = numIf t n j := by
  unfold numIf nAt
  rw [(scNum_eqv (scAt_eqv h j)).1]
theorem scOp_eqv {s t : Sc} (h : Eqv s t) : (scOp s).1 = (scOp t).1 ∧ Eqv (scOp s).2 (scOp t).2 := by
  have hn := next_eqv h
  unfold scOp
  rw [cur_eqv h]
  split
  · exact ⟨rfl, hn.1, rfl⟩
  · refine ⟨?_, scAt_eqv hn _⟩
    simp only [numIf_eqv hn]
theorem over_eqv {s t : Sc} (h : Eqv s t) : s.over = t.over := by unfold Sc.over; rw [h.1, h.2]
theorem start_eqv {s : Sc} (hb : s.bad = false) (hne : s.ws ≠ []) (hno : ∀ w ∈ s.ws, (32 : UInt8) ∉ w) : Eqv s (.start (joinL 32 s.ws)) := by
  refine ⟨?_, hb⟩
  unfold Sc.start
  rw [words_join hne hno]
/-- What is read of the rest is what is read of its text. -/
theorem scOp_rest {s : Sc} (hb : s.bad = false) (hne : s.ws ≠ []) (hno : ∀ w ∈ s.ws, (32 : UInt8) ∉ w) : ((scOp s).2.over && opOk (scOp s).1) = (sTextOpL (joinL 32 s.ws)).2 ∧ ((sTextOpL (joinL 32 s.ws)).2 = true → (scOp s).1 = (sTextOpL (joinL 32 s.ws)).1) := by
  have he := start_eqv hb hne hno
  obtain ⟨h1, h2⟩ := scOp_eqv he
  rw [h1, over_eqv h2, ← textOp_eq]
  unfold iTextOpL
  split
  · rename_i h; rw [h]; exact ⟨rfl, fun _ => rfl⟩
  · rename_i h; exact ⟨by simpa using h, fun h => by cases h⟩
theorem scNode_ws (s : Sc) : (scNode s).2.ws = s.ws.tail := by
  obtain ⟨ws, b, a⟩ := s
  cases ws <;> rfl
theorem scNode_good {s : Sc} {w : List UInt8} {r : List (List UInt8)} (hw : s.ws = w :: r) (h : 0 ≤ nodeIx w) : (scNode s).1 = nodeIx w ∧ (scNode s).2.bad = s.bad := by
  obtain ⟨ws, b, a⟩ := s
  simp only at hw
  subst hw
  refine ⟨rfl, ?_⟩
  have : decide (nodeIx w < 0) = false := by simp; omega
  show (b || decide (nodeIx w < 0)) = b
  rw [this]; simp
theorem scNode_bad {s : Sc} (h : (scNode s).2.bad = false) : s.bad = false ∧ ∃ w r, s.ws = w :: r ∧ 0 ≤ nodeIx w := by
  obtain ⟨ws, b, a⟩ := s
  cases ws with
  | nil => cases h
  | cons w r =>
    have h' : (b || decide (nodeIx w < 0)) = false := h
    rw [Bool.or_eq_false_iff, decide_eq_false_iff_not] at h'
    exact ⟨h'.1, w, r, rfl, by omega⟩
theorem scOp_bad {s : Sc} (h : (scOp s).2.bad = false) : s.bad = false ∧ s.ws ≠ [] := by
  have hn : s.next.bad = false → s.bad = false ∧ s.ws ≠ [] := by
    obtain ⟨ws, b, a⟩ := s
    cases ws with
    | nil => intro h; cases h
    | cons w r => intro h; exact ⟨h, by simp⟩
  unfold scOp at h
  split at h
  · cases h
  · exact hn (scAt_bad _ _ h).1
theorem nodeIx_word {w : List UInt8} (h : 0 ≤ nodeIx w) : nodeWordL (nodeIx w) = w := by
  unfold nodeIx nodesL at h ⊢
  simp only [idxL] at h ⊢
  by_cases h0 : [108, 111, 103] = w
  · subst h0; decide
  by_cases h1 : [115, 116, 111, 114, 101] = w
  · subst h1; decide
  by_cases h2 : [108, 101, 102, 116] = w
  · subst h2; decide
  by_cases h3 : [114, 105, 103, 104, 116] = w
  · subst h3; decide
  by_cases h4 : [97, 110, 110] = w
  · subst h4; decide
  by_cases h5 : [98, 111, 98] = w
  · subst h5; decide
  simp [h0, h1, h2, h3, h4, h5] at h
theorem nodeWord_facts {c : Int} (h : 0 ≤ c ∧ c ≤ 5) : nodeIx (nodeWordL c) = c ∧ (32 : UInt8) ∉ nodeWordL c ∧ (nodeWordL c).length ≤ 5 := by
  have : c = 0 ∨ c = 1 ∨ c = 2 ∨ c = 3 ∨ c = 4 ∨ c = 5 := by omega
  rcases this with rfl | rfl | rfl | rfl | rfl | rfl <;> decide
theorem entryTextL_join {e : DEntry} (h : entryOk e = true) : entryTextL e = joinL 32 [Lib.itoa e.index, Lib.itoa e.time, nodeWordL e.client, Lib.itoa e.seq, opTextL e.op] := by
  unfold entryTextL
  rw [if_pos h, wordsB_join]; rfl
theorem itoa_len {x : Int} {k : Nat} (h0 : 0 ≤ x) (hk : 1 ≤ k) (h : x < (10 ^ k : Nat)) : (Lib.itoa x).length ≤ k := by
  obtain ⟨n, rfl⟩ := Int.eq_ofNat_of_zero_le h0
  rw [itoa_nat]
  exact decDigits_len hk (by omega)
theorem numOf_itoa9 {x : Int} (h0 : 0 ≤ x) (h1 : x ≤ 1000000000) : numOf (Lib.itoa x) = some x.toNat := by
  obtain ⟨n, rfl⟩ := Int.eq_ofNat_of_zero_le h0
  rw [itoa_nat]
  simpa using numOf_dec (n := n) (by omega)
theorem entryTextL_words {e : DEntry} (h : entryOk e = true) : wordsL 32 (entryTextL e) = Lib.itoa e.index :: Lib.itoa e.time :: nodeWordL e.client :: Lib.itoa e.seq :: wordsL 32 (opTextL e.op) := by
  obtain ⟨h1, h2, h3, h4, h5⟩ := entryOk_bounds h
  rw [entryTextL_join h]
  simp only [joinL]
  rw [words_cat (no32_itoa (by omega)), words_cat (no32_itoa (by omega)), words_cat (nodeWord_facts (by omega)).2.1, words_cat (no32_itoa (by omega))]
theorem entryTextL_len {e : DEntry} (h : entryOk e = true) : (entryTextL e).length ≤ 120 := by
  obtain ⟨h1, h2, h3, h4, h5⟩ := entryOk_bounds h
  rw [entryTextL_join h]
  simp only [joinL, List.length_append, List.length_cons]
  have a1 := itoa_len (x := e.index) (k := 4) (by omega) (by omega) (by omega)
  have a2 := itoa_len (x := e.time) (k := 7) (by omega) (by omega) (by omega)
  have a3 := (nodeWord_facts (c := e.client) (by omega)).2.2
  have a4 := itoa_len (x := e.seq) (k := 4) (by omega) (by omega) (by omega)
  have a5 := opTextL_len60 h5
  omega
theorem sTextOp_ok {l : List UInt8} (h : (sTextOpL l).2 = true) : opTextL (sTextOpL l).1 = l ∧ opOk (sTextOpL l).1 = true := by
  rw [← textOp_eq] at h ⊢
  have e : iTextOpL l = ((scOp (.start l)).1, true) ∧ opOk (scOp (.start l)).1 = true := by
    unfold iTextOpL at h ⊢
    split
    · rename_i hc; rw [Bool.and_eq_true] at hc; exact ⟨rfl, hc.2⟩
    · rename_i hc; rw [if_neg hc] at h; cases h
  refine ⟨?_, by rw [e.1]; exact e.2⟩
  have e2 := e.1
  rw [textOp_eq] at e2
  have : (sTextOpL l).2 = true := by rw [e2]
  rw [textOp_eq]
  unfold sTextOpL at this ⊢
  split
  · rename_i hc; rw [if_pos hc] at this; cases this
  · rename_i hc
    rw [if_neg hc] at this
    split
    · rename_i hc; rw [if_pos hc] at this; cases this
    · rename_i hc
      rw [if_neg hc] at this
      split
      · rename_i hc; exact hc
      · rename_i hc; rw [if_neg hc] at this; cases this
theorem sTextOp_no {l : List UInt8} (h : (sTextOpL l).2 = false) : (sTextOpL l).1 = opZ := by
  rw [← textOp_eq] at h ⊢
  unfold iTextOpL at h ⊢
  split
  · rename_i hc; rw [if_pos hc] at h; cases h
  · rfl
/-- What the scanner reads of an entry whose words are good. -/
theorem scEntry_of {s : Sc} {w1 w2 w3 w4 : List UInt8} {v1 v2 v4 : Nat} {r : List (List UInt8)} (hb : s.bad = false) (hw : s.ws = w1 :: w2 :: w3 :: w4 :: r) (h1 : numOf w1 = some v1) (h2 : numOf w2 = some v2) (h3 : 0 ≤ nodeIx w3) (h4 : numOf w4 = some v4) :
    ∃ t : Sc, t.bad = false ∧ t.ws = r ∧ scEntry s = (⟨v1, v2, nodeIx w3, v4, (scOp t).1⟩, (scOp t).2) := by
  have a1 := scNum_good hw h1
  have b1 : (scNum s).2.ws = w2 :: w3 :: w4 :: r := by rw [scNum_ws, hw]; rfl
  have a2 := scNum_good b1 h2
  have b2 : (scNum (scNum s).2).2.ws = w3 :: w4 :: r := by rw [scNum_ws, b1]; rfl
  have a3 := scNode_good b2 h3
  have b3 : (scNode (scNum (scNum s).2).2).2.ws = w4 :: r := by rw [scNode_ws, b2]; rfl
  have a4 := scNum_good b3 h4
  have b4 : (scNum (scNode (scNum (scNum s).2).2).2).2.ws = r := by rw [scNum_ws, b3]; rfl
  refine ⟨(scNum (scNode (scNum (scNum s).2).2).2).2, by rw [a4.2, a3.2, a2.2, a1.2, hb], b4, ?_⟩
  unfold scEntry
  rw [a1.1, a2.1, a3.1, a4.1]
theorem scEntry_bad {s : Sc} (h : (scEntry s).2.bad = false) : s.bad = false ∧ ∃ w1 w2 w3 w4 r v1 v2 v4, s.ws = w1 :: w2 :: w3 :: w4 :: r ∧ r ≠ [] ∧ numOf w1 = some v1 ∧ numOf w2 = some v2 ∧ 0 ≤ nodeIx w3 ∧ numOf w4 = some v4 := by
  obtain ⟨h4, hne⟩ := scOp_bad (s := (scNum (scNode (scNum (scNum s).2).2).2).2) h
  obtain ⟨h3, w4, r, v4, e4, g4⟩ := scNum_bad h4
  obtain ⟨h2, w3, r3, e3, g3⟩ := scNode_bad h3
  obtain ⟨h1, w2, r2, v2, e2, g2⟩ := scNum_bad h2
  obtain ⟨h0, w1, r1, v1, e1, g1⟩ := scNum_bad h1
  rw [scNum_ws, e1, List.tail_cons] at e2
  subst e2
  rw [scNum_ws, scNum_ws, e1, List.tail_cons, List.tail_cons] at e3
  subst e3
  rw [scNode_ws, scNum_ws, scNum_ws, e1, List.tail_cons, List.tail_cons, List.tail_cons] at e4
  subst e4
  rw [scNum_ws, scNode_ws, scNum_ws, scNum_ws, e1] at hne
  exact ⟨h0, w1, w2, w3, w4, r, v1, v2, v4, e1, hne, g1, g2, g3, g4⟩
theorem textEntry_eq (l : List UInt8) : iTextEntryL l = sTextEntryL l := by
  have hjl : joinL 32 (wordsL 32 l) = l := join_words 32 l
  have hno := words_no (c := 32) (s := l)
  by_cases hi : ((scEntry (.start l)).2.over && entryOk (scEntry (.start l)).1) = true
  · have e1 : iTextEntryL l = ((scEntry (.start l)).1, true) := by unfold iTextEntryL; rw [if_pos hi]
    rw [Bool.and_eq_true] at hi
    obtain ⟨hov, hok⟩ := hi
    have hb : (scEntry (.start l)).2.bad = false := by simp only [Sc.over, Bool.and_eq_true, Bool.not_eq_true'] at hov; exact hov.2
    obtain ⟨h0, w1, w2, w3, w4, r, v1, v2, v4, ew, hne, g1, g2, g3, g4⟩ := scEntry_bad hb
    obtain ⟨t, tb, tw, et⟩ := scEntry_of h0 ew g1 g2 g3 g4
    have ew' : wordsL 32 l = w1 :: w2 :: w3 :: w4 :: r := ew
    rw [et] at hov hok e1
    simp only at hov hok e1
    have hopk := (entryOk_bounds hok).2.2.2.2
    have hrest := scOp_rest tb (by rw [tw]; exact hne) (by rw [tw]; intro w hw; exact hno w (by rw [ew']; simp [hw]))
    rw [tw] at hrest
    have hs2 : (sTextOpL (joinL 32 r)).2 = true := by rw [← hrest.1, hov]; exact hopk
    have ho := hrest.2 hs2
    have hse : sEntryOf (wordsL 32 l) = ⟨v1, v2, nodeIx w3, v4, (scOp t).1⟩ := by
      rw [ew', ho]
      show (⟨numN w1, numN w2, nodeIx w3, numN w4, _⟩ : DEntry) = _
      rw [numN_yes g1, numN_yes g2, numN_yes g4]; rfl
    have htx : entryTextL ⟨v1, v2, nodeIx w3, v4, (scOp t).1⟩ = l := by
      rw [entryTextL_join hok]
      simp only [itoa_nat]
      rw [ho, (sTextOp_ok hs2).1, nodeIx_word g3, ← (numOf_iff.1 g1).1, ← (numOf_iff.1 g2).1, ← (numOf_iff.1 g4).1, ← hjl, ew']
      cases r with
      | nil => exact absurd rfl hne
      | cons v ws => rfl
    have hlen := entryTextL_len hok
    rw [htx] at hlen
    rw [e1]
    unfold sTextEntryL
    rw [if_neg (by omega), hse, if_neg (by rw [ew']; cases r with
      | nil => exact absurd rfl hne
      | cons v ws => simp), hok, htx]
    simp
  · have e1 : iTextEntryL l = (entZ, false) := by unfold iTextEntryL; rw [if_neg hi]
    rw [e1]
    unfold sTextEntryL
    split
    · rfl
    split
    · rfl
    split
    · rename_i h5 hc
      exfalso
      apply hi
      rw [Bool.and_eq_true, decide_eq_true_eq] at hc
      obtain ⟨hok, htx⟩ := hc
      have hbd := entryOk_bounds hok
      have hws := entryTextL_words hok
      rw [htx] at hws
      generalize he : sEntryOf (wordsL 32 l) = e at *
      obtain ⟨i0, t0, c0, q0, o0⟩ := e
      simp only at hbd hws
      have ho : o0 = (sTextOpL (joinL 32 (wordsL 32 (opTextL o0)))).1 := by
        have h6 := congrArg DEntry.op he
        rw [hws] at h6
        exact h6.symm
      have hs2 : (sTextOpL (joinL 32 (wordsL 32 (opTextL o0)))).2 = true := by
        cases hb : (sTextOpL (joinL 32 (wordsL 32 (opTextL o0)))).2 with
        | true => rfl
        | false =>
          have := sTextOp_no hb
          rw [← ho] at this
          have h7 := hbd.2.2.2.2
          rw [this] at h7
          exact absurd h7 (by decide)
      have hn := nodeWord_facts (c := c0) (by omega)
      obtain ⟨t, tb, tw, et⟩ := scEntry_of (s := .start l) rfl (show (Sc.start l).ws = _ from hws) (numOf_itoa9 (by omega) (by omega)) (numOf_itoa9 (by omega) (by omega)) (by rw [hn.1]; omega) (numOf_itoa9 (by omega) (by omega))
      have hrest := scOp_rest tb (by rw [tw]; exact wordsL_ne _ _) (by rw [tw]; exact words_no)
      rw [tw] at hrest
      have ho2 := hrest.2 hs2
      rw [← ho] at ho2
      have h8 : (scOp t).2.over = true := by
        have := hrest.1
        rw [hs2, Bool.and_eq_true] at this
        exact this.1
      rw [et, Bool.and_eq_true]
      refine ⟨h8, ?_⟩
      simp only
      rw [ho2, hn.1, Int.toNat_of_nonneg (by omega), Int.toNat_of_nonneg (by omega), Int.toNat_of_nonneg (by omega)]
      exact hok
    · rfl
theorem eqEntry_p (x : DEntry) : PCall av 44 [.agg x.ds, .agg x.ds] (rB true) := by
  refine pcall_of av_ok Tryd.func44 rfl Tryd.call44 Tryd.ntmps44 (congrArg Array.toList Tryd.results44) fun S => ?_; conv => whnf
  repeat' (first | (refine AWP.seq ?_) | (refine AWP.region av_ok ?_; conv => whnf) | (refine AWP.ret ?_; conv => whnf) | (refine AWP.skip ?_; conv => whnf) | (refine AWP.exit ?_; conv => whnf) | (refine AWP.block ?_; conv => whnf) | (refine AWP.cond ?_; conv => whnf) | (refine AB.tt ?_; conv => whnf) | (refine AB.ff ?_; conv => whnf) | (refine AB.ofT (by assumption) ?_; conv => whnf) | (refine AB.ofF (by assumption) ?_; conv => whnf) | (refine AB.ofF (bne_no _) ?_; conv => whnf) | (refine ACall.pure (eqOp_p x.op) rfl ?_; conv => whnf) | (exact trivial) | (refine And.intro rfl ?_; conv => whnf) | (refine AB.mk (fun h => ?_) (fun h => ?_) <;> (conv => whnf)) | (with_reducible_and_instances rfl) | (exact (rfl : AP.tup _ = AP.tup _)))
theorem lawTextEntry_p (l : List UInt8) : PCall av 10 [pL l] (rB true) := by
  by_cases h : 1048576 < l.length
  · have hlt : decide (((⟨l.toArray⟩ : ByteArray).size : Int) > 1048576) = true := by rw [sz_dL]; simp; omega
    refine pcall_of av_ok Tryd.func10 rfl Tryd.call10 Tryd.ntmps10 (congrArg Array.toList Tryd.results10) fun S => ?_; conv => whnf
    repeat' (first | (refine AWP.seq ?_) | (refine AWP.region av_ok ?_; conv => whnf) | (refine AWP.ret ?_; conv => whnf) | (refine AWP.skip ?_; conv => whnf) | (refine AWP.exit ?_; conv => whnf) | (refine AWP.block ?_; conv => whnf) | (refine AWP.cond ?_; conv => whnf) | (refine AB.tt ?_; conv => whnf) | (refine AB.ff ?_; conv => whnf) | (refine AB.ofT (by assumption) ?_; conv => whnf) | (refine AB.ofF (by assumption) ?_; conv => whnf) | (exact trivial) | (refine And.intro rfl ?_; conv => whnf) | (refine AB.mk (fun h => ?_) (fun h => ?_) <;> (conv => whnf)) | (with_reducible_and_instances rfl) | (exact (rfl : AP.tup _ = AP.tup _)))
  · have hlt : decide (((⟨l.toArray⟩ : ByteArray).size : Int) > 1048576) = false := by rw [sz_dL]; simp; omega
    have ip := iTextEntry_p l (by omega)
    have sp := sTextEntry_p l (by omega)
    rw [textEntry_eq] at ip
    generalize sTextEntryL l = x at ip sp
    obtain ⟨o, b⟩ := x
    have hb : (!(b == b)) = false := by simp
    refine pcall_of av_ok Tryd.func10 rfl Tryd.call10 Tryd.ntmps10 (congrArg Array.toList Tryd.results10) fun S => ?_; conv => whnf
    repeat' (first | (refine AWP.seq ?_) | (refine AWP.region av_ok ?_; conv => whnf) | (refine AWP.ret ?_; conv => whnf) | (refine AWP.skip ?_; conv => whnf) | (refine AWP.exit ?_; conv => whnf) | (refine AWP.block ?_; conv => whnf) | (refine AWP.cond ?_; conv => whnf) | (refine AB.tt ?_; conv => whnf) | (refine AB.ff ?_; conv => whnf) | (refine AB.ofT (by assumption) ?_; conv => whnf) | (refine AB.ofF (by assumption) ?_; conv => whnf) | (refine ACall.pure sp rfl ?_; conv => whnf) | (refine ACall.pure ip rfl ?_; conv => whnf) | (refine ACall.pure (eqEntry_p o) rfl ?_; conv => whnf) | (exact trivial) | (refine And.intro rfl ?_; conv => whnf) | (refine AB.mk (fun h => ?_) (fun h => ?_) <;> (conv => whnf)) | (with_reducible_and_instances rfl) | (exact (rfl : AP.tup _ = AP.tup _)))
end Go.Proofs.YtlhanpkfnhnegaaDoor
