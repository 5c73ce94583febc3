/- Joined by join.py: AvY5 AvY7 AvYA AvYB -/
import Derived.Test.YtlhanpkfnhnegaaDoorAvJ7
import Derived.Test.YtlhanpkfnhnegaaDoorAvWC
import Derived.Test.YtlhanpkfnhnegaaDoorAvWE
import Derived.Test.YtlhanpkfnhnegaaDoorAvJ9
import Derived.Test.YtlhanpkfnhnegaaDoorAvT3
set_option linter.unusedVariables false
set_option linter.unusedSimpArgs false
set_option maxRecDepth 100000
/- A step's text with a space behind it is no step's text. -/
namespace Go.Proofs.YtlhanpkfnhnegaaDoor
open Go.RowKit

theorem words_snoc (c : UInt8) : ∀ a : List UInt8, wordsL c (a ++ [c]) = wordsL c a ++ [[]]
  | [] => by simp [wordsL]
  | x :: r => by
    have ih := words_snoc c r
    obtain ⟨w, ws, e⟩ := wordsL_split (c := c) (s := r)
    rw [e] at ih
    by_cases hx : x = c
    · simp [wordsL, hx, ih, e]
    · simp [wordsL, hx, ih, e]
theorem itoa_ne {x : Int} (h : 0 ≤ x) : Lib.itoa x ≠ [] := by
  obtain ⟨n, rfl⟩ := Int.eq_ofNat_of_zero_le h
  rw [itoa_nat]
  intro e
  have := (decDigits_facts n)
  rw [e] at this
  simp at this
theorem nodeWordL_ne {c : Int} (h : 0 ≤ c ∧ c ≤ 5) : nodeWordL c ≠ [] := by
  have : c = 0 ∨ c = 1 ∨ c = 2 ∨ c = 3 ∨ c = 4 ∨ c = 5 := by omega
  rcases this with rfl | rfl | rfl | rfl | rfl | rfl <;> decide
theorem stepWords_last {x : DStep} (h : stepOk x = true) (ws : List (List UInt8)) : stepWords x ≠ ws ++ [[]] := by
  intro e
  have hl : (stepWords x).getLast? = some [] := by rw [e]; simp
  have hF := stepF_of h
  cases hF with
  | num k a hk ha => rw [sw_num a hk] at hl; simp at hl; exact itoa_ne ha.1 hl
  | node k a hk ha => rw [sw_node a hk] at hl; simp at hl; exact nodeWordL_ne ha hl
  | time k a b hk ha hb => rw [sw_time a b hk] at hl; simp at hl; exact itoa_ne hb.1 hl
  | cut k a b hk ha hb => rw [sw_cut a b hk] at hl; simp at hl; exact nodeWordL_ne hb hl
  | rot a b c ha hb hc => rw [sw_rot a b c] at hl; simp at hl; exact itoa_ne hc.1 hl
  | fall a f ha hf =>
    rw [sw_fall a f] at hl
    split at hl
    · simp at hl; exact nodeWordL_ne ha hl
    · rename_i hn
      simp at hl
      have := fateL_len f
      rw [hl] at this
      exact hn (List.eq_nil_of_length_eq_zero this.symm)
theorem textStep_space {x : DStep} (h : stepOk x = true) : sTextStepL (stepTextL x ++ [32]) = (stpZ, false) := by
  refine sStep_no fun hs => ?_
  obtain ⟨y, _, ok, hw⟩ := sStep_sound hs
  rw [words_snoc] at hw
  exact stepWords_last ok _ hw.symm
theorem textStep_back {x : DStep} (h : stepOk x = true) : sTextStepL (stepTextL x) = (x, true) := by
  refine sStep_complete h ?_
  rw [stepTextL_join h, words_join (stepWords_ne x) (stepWords_no h)]
end Go.Proofs.YtlhanpkfnhnegaaDoor
/- Texts of drawn operations, requests and entries read back. -/
namespace Go.Proofs.YtlhanpkfnhnegaaDoor
open Go.RowKit

theorem sOpOf_text {o : DOp} (h : opOk o = true) : sOpOf (opWordL o.kind :: (opArgs o).map Lib.itoa) = o := by
  have hb := opOk_bounds h
  have hk : opKind (opWordL o.kind) = o.kind := (opKind_word hb.1).2 rfl
  obtain ⟨k, a, b, c, e⟩ := o
  simp only at hb hk
  obtain ⟨h1, ha, hb, hc, he⟩ := hb
  have na := numN_itoa (x := a) (by omega)
  have nb := numN_itoa (x := b) (by omega)
  have nc := numN_itoa (x := c) (by omega)
  have ne := numN_itoa (x := e) (by omega)
  unfold sOpOf
  simp only [List.headD_cons, hk]
  have : k = 1 ∨ k = 2 ∨ k = 3 ∨ k = 4 ∨ k = 5 := by omega
  rcases this with rfl | rfl | rfl | rfl | rfl <;> simp [opOk, betweenB] at h <;> simp [wNum, opManyN, atN, opArgs, na, nb, nc, ne, h]
theorem textOp_back {o : DOp} (h : opOk o = true) : sTextOpL (opTextL o) = (o, true) := by
  have hb := opOk_bounds h
  have hk : opKind (opWordL o.kind) = o.kind := (opKind_word hb.1).2 rfl
  have hl := opTextL_len60 h
  unfold sTextOpL
  rw [opTextL_words h, if_neg (by omega), sOpOf_text h]
  simp only [List.headD_cons, hk]
  rw [if_neg (by omega)]
  simp
theorem opWordL_read {k : Int} (h : 1 ≤ k ∧ k ≤ 5) : opWordL k ≠ readL := by
  have : k = 1 ∨ k = 2 ∨ k = 3 ∨ k = 4 ∨ k = 5 := by omega
  rcases this with rfl | rfl | rfl | rfl | rfl <;> decide
theorem textWant_back {x : DWant} (h : wantOk x = true) : sTextWantL (wantTextL x) = (x, true) := by
  obtain ⟨k, o, q⟩ := x
  by_cases h4 : k = 4
  · subst h4
    have ho : o = opZ := by
      have h2 := h
      simp [wantOk] at h2
      exact h2.1
    subst ho
    obtain ⟨h0, h9, ht⟩ := wantText4 h
    have hw : wordsL 32 (readL ++ 32 :: Lib.itoa q) = [readL, Lib.itoa q] := by rw [words_cat (by decide), words_one (no32_itoa h0)]
    have hs : sWant (readL ++ 32 :: Lib.itoa q) = ⟨4, opZ, q⟩ := by
      unfold sWant; rw [hw]
      have : atN [readL, Lib.itoa q] 1 = q := by
        show numN (Lib.itoa q) = q
        exact numN_itoa (by omega)
      rw [this]; rfl
    have hlen : (readL ++ 32 :: Lib.itoa q).length ≤ 60 := by
      have := itoa_len (x := q) (k := 1) h0 (by omega) (by omega)
      simp [readL]; omega
    unfold sTextWantL
    rw [ht, hs, if_neg (by omega), h, ht]
    simp
  · have h5 : (k == 4) = false := by simpa using h4
    have h2 := h
    simp only [wantOk, h5, Bool.false_eq_true, if_false] at h2
    split at h2
    · simp only [Bool.and_eq_true, beq_iff_eq] at h2
      obtain ⟨⟨ho, hk⟩, hq⟩ := h2
      subst hq
      have hb := opOk_bounds ho
      have ht : wantTextL ⟨k, o, 0⟩ = opTextL o := by
        unfold wantTextL
        rw [if_pos h]
        simp only [h5, Bool.false_eq_true, if_false]
      have hs : sWant (opTextL o) = ⟨k, o, 0⟩ := by
        unfold sWant
        rw [opTextL_words ho, List.headD_cons, if_neg (opWordL_read hb.1), textOp_back ho]
        simp only [hk]
      have hl := opTextL_len60 ho
      unfold sTextWantL
      rw [ht, hs, if_neg (by omega), h, ht]
      simp
    · cases h2
theorem textEntry_back {e : DEntry} (h : entryOk e = true) : sTextEntryL (entryTextL e) = (e, true) := by
  obtain ⟨h1, h2, h3, h4, h5⟩ := entryOk_bounds h
  have hl := entryTextL_len h
  have hs : sEntryOf (wordsL 32 (entryTextL e)) = e := by
    rw [entryTextL_words h]
    unfold sEntryOf
    have hd : (Lib.itoa e.index :: Lib.itoa e.time :: nodeWordL e.client :: Lib.itoa e.seq :: wordsL 32 (opTextL e.op)).drop 4 = wordsL 32 (opTextL e.op) := rfl
    rw [hd, join_words, textOp_back h5]
    show (⟨numN (Lib.itoa e.index), numN (Lib.itoa e.time), nodeIx (nodeWordL e.client), numN (Lib.itoa e.seq), e.op⟩ : DEntry) = e
    rw [numN_itoa (by omega), numN_itoa (by omega), numN_itoa (by omega), (nodeWord_facts (by omega)).1]
  have hc : ¬ (wordsL 32 (entryTextL e)).length < 5 := by
    rw [entryTextL_words h, opTextL_words h5]
    simp
  unfold sTextEntryL
  rw [if_neg (by omega), if_neg hc, hs, h]
  simp
end Go.Proofs.YtlhanpkfnhnegaaDoor
/- Requests and entries compared as Go compares them; lists of numbers compared; the code's size. -/
namespace Go.Proofs.YtlhanpkfnhnegaaDoor
open Go.ChangeShapes Go.WideShapes Go.RowKit

theorem relV_pvs {Z : Nat → Prop} {w : World} {ρ : Nat → Value} {v : Value} : ∀ {ds : List AD}, ds.all AD.isPv = true → RelV Z w ρ (.agg (ds.map .d)) v → v = .agg (ds.map pvOf).toArray := by
  intro ds hp h
  cases h with
  | agg _ us hl h =>
    have : us = ds.map pvOf := by
      apply List.ext_getElem
      · simpa using hl
      · intro i h1 h2
        have hi : i < ds.length := by simpa using h2
        have hr := h i (.d ds[i]) us[i] (by simp [hi]) (by simp [h1])
        have := relD_pl (List.all_eq_true.1 hp ds[i] (List.getElem_mem hi)) (show RelD Z w ds[i] us[i] from hr)
        simpa using this
    rw [this]
set_option maxHeartbeats 2000000 in
theorem eqOp_in (p : DOp) (d : Nat) (w : World) : (Op.equalIn (d + 2) 25 p.v p.v).run Tryd.prog w = .ok true w := by
  obtain ⟨a, b, c, e, f⟩ := p
  have h := run_underlying (w := w) Tryd.underlying25
  have hs : Tryd.prog.stoodInHeld 25 = false := by kernel_rfl
  rw [Op.equalIn]
  have key : ∀ x y : Int, (Op.equalIn (d + 1) 2 (.int .i64 x) (.int .i64 y)).run Tryd.prog w = .ok (x == y) w := eqIn_int w d
  simp [DOp.v, h, hs, part_int, key]
abbrev vI64 (x : Int) : Value := .int .i64 x
def DWant.v (x : DWant) : Value := .agg #[vI64 x.kind, vI64 x.op.kind, vI64 x.op.a, vI64 x.op.b, vI64 x.op.c, vI64 x.op.d, vI64 x.key]
def DEntry.v (e : DEntry) : Value := .agg #[vI64 e.index, vI64 e.time, vI64 e.client, vI64 e.seq, vI64 e.op.kind, vI64 e.op.a, vI64 e.op.b, vI64 e.op.c, vI64 e.op.d]
theorem part_op (w : World) (xs : Array Value) (i : Nat) (o : DOp) (h : (xs.extract i (i + 5)) = #[vI64 o.kind, vI64 o.a, vI64 o.b, vI64 o.c, vI64 o.d]) : (part 25 xs i).run Tryd.prog w = .ok o.v w := by
  simp [part, Tryd.isAgg25, Tryd.sizeOf25, h, DOp.v]
set_option maxHeartbeats 2000000 in
theorem eqWant_run (x : DWant) (w : World) : (binOp .eql 39 x.v x.v).run Tryd.prog w = .ok (.bool true) w := by
  obtain ⟨k, o, q⟩ := x
  have h := run_underlying (w := w) Tryd.underlying39
  have hs : Tryd.prog.stoodInHeld 39 = false := by kernel_rfl
  show (do let x ← Op.equalIn (9999 + 1) _ _ _; pure (Value.bool x) : Sem Value).run _ _ = _
  rw [Op.equalIn]
  have key : ∀ x y : Int, (Op.equalIn 9999 2 (.int .i64 x) (.int .i64 y)).run Tryd.prog w = .ok (x == y) w := eqIn_int w 9998
  have kop := eqOp_in o 9997 w
  have po := part_op w #[vI64 k, vI64 o.kind, vI64 o.a, vI64 o.b, vI64 o.c, vI64 o.d, vI64 q] 1 o rfl
  simp [DWant.v, h, hs, part_int, key, kop, po]
set_option maxHeartbeats 2000000 in
theorem eqEntry_run (e : DEntry) (w : World) : (binOp .eql 32 e.v e.v).run Tryd.prog w = .ok (.bool true) w := by
  obtain ⟨i, t, c, q, o⟩ := e
  have h := run_underlying (w := w) Tryd.underlying32
  have hs : Tryd.prog.stoodInHeld 32 = false := by kernel_rfl
  show (do let x ← Op.equalIn (9999 + 1) _ _ _; pure (Value.bool x) : Sem Value).run _ _ = _
  rw [Op.equalIn]
  have key : ∀ x y : Int, (Op.equalIn 9999 2 (.int .i64 x) (.int .i64 y)).run Tryd.prog w = .ok (x == y) w := eqIn_int w 9998
  have kop := eqOp_in o 9997 w
  have po := part_op w #[vI64 i, vI64 t, vI64 c, vI64 q, vI64 o.kind, vI64 o.a, vI64 o.b, vI64 o.c, vI64 o.d] 4 o rfl
  simp [DEntry.v, h, hs, part_int, key, kop, po]
theorem eqWant_guard (p : DWant) (x y : Operand) (w : World) : (eqGuard .eql 39 x y p.v p.v).run Tryd.prog w = .ok () w := by
  have h : Tryd.prog.eqGuardType Tryd.prog.depth 39 = false := by kernel_rfl
  simp [eqGuard, DWant.v, h]
theorem eqEntry_guard (p : DEntry) (x y : Operand) (w : World) : (eqGuard .eql 32 x y p.v p.v).run Tryd.prog w = .ok () w := by
  have h : Tryd.prog.eqGuardType Tryd.prog.depth 32 = false := by kernel_rfl
  simp [eqGuard, DEntry.v, h]
theorem AOp.eqWant {S : Base} {o : Oper} {st : ASt} {K : ASt → Prop} {x y : Operand} {t2 : TypeId} (p : DWant) (ho : o.op = .binOp .eql 39 x y t2) (hx : aEv st x fun v => v = .agg (p.ds.map .d)) (hy : aEv st y fun v => v = .agg (p.ds.map .d)) (hk : aDst st o.dst (vB true) K) : AOp av S o st K := by
  refine .reads fun Z ρ a w hs => ?_
  obtain ⟨v, hv, rfl⟩ := aEv_get hs hx
  obtain ⟨u, hu, rfl⟩ := aEv_get hs hy
  have e1 : _ = p.v := relV_pvs rfl hv
  have e2 : _ = p.v := relV_pvs rfl hu
  refine ⟨_, .bool true, relV_of_pv rfl, ?_, hk⟩
  have h1 := eqWant_guard p x y w
  have h2 := eqWant_run p w
  simp [execOp, ho, e1, e2, av, h1, h2]
theorem AOp.eqEntry {S : Base} {o : Oper} {st : ASt} {K : ASt → Prop} {x y : Operand} {t2 : TypeId} (p : DEntry) (ho : o.op = .binOp .eql 32 x y t2) (hx : aEv st x fun v => v = .agg (p.ds.map .d)) (hy : aEv st y fun v => v = .agg (p.ds.map .d)) (hk : aDst st o.dst (vB true) K) : AOp av S o st K := by
  refine .reads fun Z ρ a w hs => ?_
  obtain ⟨v, hv, rfl⟩ := aEv_get hs hx
  obtain ⟨u, hu, rfl⟩ := aEv_get hs hy
  have e1 : _ = p.v := relV_pvs rfl hv
  have e2 : _ = p.v := relV_pvs rfl hu
  refine ⟨_, .bool true, relV_of_pv rfl, ?_, hk⟩
  have h1 := eqEntry_guard p x y w
  have h2 := eqEntry_run p w
  simp [execOp, ho, e1, e2, av, h1, h2]
theorem big_p (b : List Int) : PCall av 52 [.one (.sl (b.map eU))] (rB (decide ((b.length : Int) > 4096))) := by
  have e : ((b.map eU).length : Int) = b.length := by simp
  refine pcall_of av_ok Tryd.func52 rfl Tryd.call52 Tryd.ntmps52 (congrArg Array.toList Tryd.results52) fun S => ?_; conv => whnf
  repeat' (first | (refine AWP.seq ?_) | (refine AWP.region av_ok ?_; conv => whnf) | (refine AWP.ret ?_; conv => whnf) | (refine AWP.skip ?_; conv => whnf) | (refine AWP.exit ?_; conv => whnf) | (refine AWP.block ?_; conv => whnf) | (refine AWP.cond ?_; conv => whnf) | (refine AB.tt ?_; conv => whnf) | (refine AB.ff ?_; conv => whnf) | (refine AB.ofT (by assumption) ?_; conv => whnf) | (refine AB.ofF (by assumption) ?_; conv => whnf) | (exact trivial) | (refine And.intro rfl ?_; conv => whnf) | (refine AB.mk (fun h => ?_) (fun h => ?_) <;> (conv => whnf)) | (with_reducible_and_instances rfl) | (exact (rfl : AP.tup _ = AP.tup _)))
  rw [e]
theorem likeInts_p (l : List Int) (hl : l.length ≤ 1048576) : PCall av 58 [.one (.sl (l.map eI)), .one (.sl (l.map eI))] (rB true) := by
  refine pcall_of av_ok Tryd.func58 rfl Tryd.call58 Tryd.ntmps58 (congrArg Array.toList Tryd.results58) fun S => ?_; conv => whnf
  have h0 : (((l.map eI).length : Int) != ((l.map eI).length : Int)) = false := by simp
  repeat' (first | (refine AWP.seq ?_) | (refine AWP.region av_ok ?_; conv => whnf) | (refine AWP.ret ?_; conv => whnf) | (refine AWP.skip ?_; conv => whnf) | (refine AWP.exit ?_; conv => whnf) | (refine AWP.block ?_; conv => whnf) | (refine AWP.cond ?_; conv => whnf) | (refine AB.tt ?_; conv => whnf) | (refine AB.ff ?_; conv => whnf) | (refine AB.ofT (by assumption) ?_; conv => whnf) | (refine AB.ofF (by assumption) ?_; conv => whnf) | (exact trivial) | (refine And.intro rfl ?_; conv => whnf) | (refine AB.mk (fun h => ?_) (fun h => ?_) <;> (conv => whnf)) | (with_reducible_and_instances rfl) | (exact (rfl : AP.tup _ = AP.tup _)))
  refine AWP.loopS (fun k : Nat => k ≤ l.length) [4, 5, 11, 12, 13, 14, 15, 16, 17, 18, 19, 20, 21, 22, 23, 24, 25] (fun k => [(5, vI .i64 (k : Int))]) (fun k => []) (fun k => l.length - k) 0 (by omega) ?_ SubO.nil (fun k hR => ?_) <;> (conv => whnf)
  · repeat' (first | exact trivial | (refine ⟨rfl, ?_⟩; conv => whnf))
  · repeat' (first | (refine AWP.seq ?_) | (refine AWP.region av_ok ?_; conv => whnf) | (refine AWP.ret ?_; conv => whnf) | (refine AWP.skip ?_; conv => whnf) | (refine AWP.exit ?_; conv => whnf) | (refine AWP.block ?_; conv => whnf) | (refine AWP.cond ?_; conv => whnf) | (refine AB.tt ?_; conv => whnf) | (refine AB.ff ?_; conv => whnf) | (refine AB.ofT (by assumption) ?_; conv => whnf) | (refine AB.ofF (by assumption) ?_; conv => whnf) | (exact trivial) | (refine And.intro rfl ?_; conv => whnf) | (refine AB.mk (fun h => ?_) (fun h => ?_) <;> (conv => whnf)) | (with_reducible_and_instances rfl) | (exact (rfl : AP.tup _ = AP.tup _)))
    · have hlt : k < l.length := (by simp only [decide_eq_true_eq, decide_eq_false_iff_not, List.length_map, Bool.not_eq_true', Bool.not_eq_false'] at *; omega)
      refine' AWP.draw av_ok 8 [[], [], [1, 0], [0, 1, 2], [], [], [5, 4], [4, 5, 6], [6, 5, 4, 7, 2, 1, 0, 3]] [(_, _), (_, _), (_, _), (_, _), (_, _), (_, _), (_, _), (_, _)] ?hD ?hok ?hl ?hf ?hno ?ht
      case hD => kernel_rfl
      case hok => kernel_rfl
      case hl => rfl
      case hf =>
        conv => whnf
        repeat' (first | (refine ⟨rfl, rfl⟩) | exact trivial | (refine AIx.map hlt ?_; conv => whnf) | (refine And.intro ?_ ?_ <;> conv => whnf))
      case hno => rfl
      case ht =>
        conv => whnf
        have hne : (l[k] != l[k]) = false := by simp
        repeat' (first | (refine AWP.seq ?_) | (refine AWP.region av_ok ?_; conv => whnf) | (refine AWP.ret ?_; conv => whnf) | (refine AWP.skip ?_; conv => whnf) | (refine AWP.exit ?_; conv => whnf) | (refine AWP.block ?_; conv => whnf) | (refine AWP.cond ?_; conv => whnf) | (refine AB.tt ?_; conv => whnf) | (refine AB.ff ?_; conv => whnf) | (refine AB.ofT (by assumption) ?_; conv => whnf) | (refine AB.ofF (by assumption) ?_; conv => whnf) | (refine AW.i64 (by simp only [decide_eq_true_eq, decide_eq_false_iff_not, List.length_map, Bool.not_eq_true', Bool.not_eq_false'] at *; omega) (by simp only [decide_eq_true_eq, decide_eq_false_iff_not, List.length_map, Bool.not_eq_true', Bool.not_eq_false'] at *; omega) ?_; conv => whnf) | (exact trivial) | (refine And.intro rfl ?_; conv => whnf) | (refine AB.mk (fun h => ?_) (fun h => ?_) <;> (conv => whnf)) | (with_reducible_and_instances rfl) | (exact (rfl : AP.tup _ = AP.tup _)))
        refine ANext.mk ⟨k + 1, hlt, by omega, ?_, SubO.nil⟩
        (conv => whnf); repeat' (first | exact trivial | (refine ⟨rfl, ?_⟩; conv => whnf))
end Go.Proofs.YtlhanpkfnhnegaaDoor
/- FnStepWords: for any code it answers true. -/
namespace Go.Proofs.YtlhanpkfnhnegaaDoor
open Go.RowKit

theorem stepOk_rot {a b c : Int} (ha : 0 ≤ a ∧ a < 22) (hb : 0 ≤ b ∧ b < 13) (hc : 0 ≤ c ∧ c < 1000) : stepOk ⟨11, a, b, c, []⟩ = true := by
  simp [stepOk, stepNums, stepKind, numsB, fatesB, betweenB]
  omega
theorem stepOk_cut {k a b : Int} (hk : 0 ≤ k ∧ k < 2) (ha : 0 ≤ a ∧ a < 6) (hb : 0 ≤ b ∧ b < 6) : stepOk ⟨9 + k, a, b, 0, []⟩ = true := by
  have : k = 0 ∨ k = 1 := by omega
  rcases this with rfl | rfl <;> simp [stepOk, stepNums, stepKind, numsB, fatesB, betweenB] <;> omega
theorem stepOk_time {k a b : Int} (hk : 0 ≤ k ∧ k < 2) (ha : 0 ≤ a ∧ a < 6) (hb : 0 ≤ b ∧ b < 99) : stepOk ⟨3 + k, a, 1 + b, 0, []⟩ = true := by
  have : k = 0 ∨ k = 1 := by omega
  rcases this with rfl | rfl <;> simp [stepOk, stepNums, stepKind, numsB, fatesB, betweenB] <;> omega
theorem stepOk_fall {a : Int} {f : List Int} (ha : 0 ≤ a ∧ a < 6) (hf : fatesB f = true) : stepOk ⟨5, a, 0, 0, f⟩ = true := by
  simp [stepOk, stepNums, stepKind, numsB, hf, betweenB]
  omega
theorem nums_fates (d : Dc) (hd : d.ok) (n : Nat) (hn : n ≤ 120) : fatesB (d.nums 3 n) = true := by
  refine fatesB_yes (by rw [Dc.nums_len]; exact hn) fun j hj => ?_
  rw [Dc.nums_len] at hj
  have := (hd.skip j).val (n := 3) (by omega)
  simp [Dc.nums, betweenB]
  omega
theorem stepTail (s : DStep) (hs : stepOk s = true) (dn : Dc) (hdn : dn.ok) : ∃ (x : DWant) (d2 : Dc) (e0 e1 : DEntry) (d3 : Dc), 
    MCall av 56 [.one (.ref 1000 0 0 0), .one (.d (dI 1))] [(1000, dn.o)] [(1000, d2.o), (6, .row 39 7 [x.ds])] [1000] (.val (.one (.own 6))) ∧
    MCall av 57 [.one (.ref 1000 0 0 0), .one (.own 1001), .one (.d (dI 2))] [(1000, d2.o), (1001, .row 32 9 [])] [(1000, d3.o), (1001, .row 32 9 []), (13, .row 32 9 [e0.ds, e1.ds])] [1000] (.val (.one (.own 13))) ∧
    PCall av 46 [pL (wantTextL x)] (.tup [.agg x.ds, .one (dB true)]) ∧ PCall av 43 [pL (entryTextL e1)] (.tup [.agg e1.ds, .one (dB true)]) ∧ PCall av 35 [pL (opTextL e1.op)] (.tup [.agg e1.op.dz, .one (dB true)]) ∧
    MCall av 49 [.one (.d (dL (stepTextL s ++ [32])))] [] [] [] (.tup [stAgg 0 0 0 0 .nil, .one (.d (dB false))]) ∧
    ((s.fates = [] ∧ MCall av 49 [.one (.d (dL (stepTextL s)))] [] [] [] (.tup [stAgg s.kind s.a s.b s.c .nil, .one (.d (dB true))])) ∨
      (s.fates.length ≤ 120 ∧ MCall av 49 [.one (.d (dL (stepTextL s)))] [] [(901, .row 2 1 (s.fates.map eI))] [] (.tup [stAgg s.kind s.a s.b s.c (.own 901), .one (.d (dB true))]))) := by
  obtain ⟨x, d2, hd2, hx, wm⟩ := w9Wants_ex dn hdn
  obtain ⟨e0, e1, d3, hd3, he0, he1, lm⟩ := w9List_ex d2 hd2
  have hsl := stepTextL_len s
  have hop := (entryOk_bounds he1).2.2.2.2
  have ip := iTextStep_m (stepTextL s) (by omega)
  have iq := iTextStep_m (stepTextL s ++ [32]) (by simp; omega)
  rw [textStep_eq, textStep_back hs] at ip
  rw [textStep_eq, textStep_space hs] at iq
  have tw := iTextWant_p (wantTextL x) (by
    have := textWant_back hx
    unfold sTextWantL at this
    split at this
    · simp at this
    · omega)
  rw [textWant_eq, textWant_back hx] at tw
  have te := iTextEntry_p (entryTextL e1) (by have := entryTextL_len he1; omega)
  rw [textEntry_eq, textEntry_back he1] at te
  have tO := iTextOp_p (opTextL e1.op) (by have := opTextL_len60 hop; omega)
  rw [textOp_eq, textOp_back hop] at tO
  refine ⟨x, d2, e0, e1, d3, wm, lm, tw, te, tO, ?_, ?_⟩
  · rcases iq with ⟨_, mq⟩ | ⟨hq, _⟩
    · exact mq
    · simp at hq
  · rcases ip with ⟨hf, m⟩ | ⟨_, hfl, m⟩
    · exact .inl ⟨hf, m⟩
    · exact .inr ⟨hfl, m⟩
set_option maxHeartbeats 4000000 in
theorem lawStepWords_p (l : List Int) (hb : ∀ x ∈ l, 0 ≤ x ∧ x ≤ 255) : PCall av 13 [.one (.sl (l.map eU))] (rB true) := by
  have bp := big_p l
  by_cases h : 4096 < l.length
  · have hlt : decide ((l.length : Int) > 4096) = true := by simp; omega
    rw [hlt] at bp
    refine pcall_of av_ok Tryd.func13 rfl Tryd.call13 Tryd.ntmps13 (congrArg Array.toList Tryd.results13) fun S => ?_; conv => whnf
    repeat' (first | (refine AWP.seq ?_) | (refine AWP.region av_ok ?_; conv => whnf) | (refine AWP.ret ?_; conv => whnf) | (refine AWP.skip ?_; conv => whnf) | (refine AWP.exit ?_; conv => whnf) | (refine AWP.block ?_; conv => whnf) | (refine AWP.cond ?_; conv => whnf) | (refine AB.tt ?_; conv => whnf) | (refine AB.ff ?_; conv => whnf) | (refine AB.ofT (by assumption) ?_; conv => whnf) | (refine AB.ofF (by assumption) ?_; conv => whnf) | (refine ACall.pure bp rfl ?_; conv => whnf) | (exact trivial) | (refine And.intro rfl ?_; conv => whnf) | (refine AB.mk (fun h => ?_) (fun h => ?_) <;> (conv => whnf)) | (with_reducible_and_instances rfl) | (exact (rfl : AP.tup _ = AP.tup _)))
  · have hlt : decide ((l.length : Int) > 4096) = false := by simp; omega
    rw [hlt] at bp
    have rm := roll_m l 938 (by omega)
    have hd : (rollD l 938).ok := ⟨by show l.length ≤ 4096; omega, Nat.zero_le _, hb⟩
    generalize rollD l 938 = d at rm hd
    have b0 := below_m d 6 hd (by omega)
    have b1 := below_m (d.skip 1) 6 (hd.skip 1) (by omega)
    have r0 := hd.val (n := 6) (by omega)
    have r1 := (hd.skip 1).val (n := 6) (by omega)
    obtain ⟨n, hn⟩ := Int.eq_ofNat_of_zero_le r1.1
    rw [hn] at b1 r1
    have bf := w9Fates_m (d.skip 2) n (hd.skip 2) (by omega)
    have hF := nums_fates (d.skip 2) (hd.skip 2) n (by omega)
    have hd1 := (hd.skip 2).skip n
    generalize (d.skip 2).nums 3 n = F at bf hF
    generalize (d.skip 2).skip n = d1 at bf hd1
    generalize d.val 6 = a0 at b0 r0
    have b4 := below_m d1 4 hd1 (by omega)
    have s0 := b4
    have s1 := b4
    have s2 := b4
    rcases val4 d1 hd1 with hv | hv | hv | hv <;> rw [hv] at b4
    · have s0 := below_m (d1.skip 1) 22 (hd1.skip 1) (by omega)
      have q0 := (hd1.skip 1).val (n := 22) (by omega)
      generalize (d1.skip 1).val 22 = u0 at s0 q0
      have s1 := below_m (d1.skip 2) 13 (hd1.skip 2) (by omega)
      have q1 := (hd1.skip 2).val (n := 13) (by omega)
      generalize (d1.skip 2).val 13 = u1 at s1 q1
      have s2 := below_m (d1.skip 3) 1000 (hd1.skip 3) (by omega)
      have q2 := (hd1.skip 3).val (n := 1000) (by omega)
      generalize (d1.skip 3).val 1000 = u2 at s2 q2
      obtain ⟨x, d2, e0, e1, d3, wm, lm, tw, te, tO, mq, ip⟩ := stepTail ⟨11, u0, u1, u2, []⟩ (stepOk_rot q0 q1 q2) (d1.skip 4) (hd1.skip 4)
      have hsl := stepTextL_len ⟨11, u0, u1, u2, []⟩
      have sp := iStepText_p ⟨11, u0, u1, u2, []⟩
      have wp := iWantText_p x
      have ep := iEntryText_p e1
      have op := iOpText_p e1.op
      have lp := likeInts_p [] (by simp)
      rcases ip with ⟨hf, m⟩ | ⟨_, m⟩
      · simp only at hf m
        refine pcall_of av_ok Tryd.func13 rfl Tryd.call13 Tryd.ntmps13 (congrArg Array.toList Tryd.results13) fun S => ?_; conv => whnf
        repeat' (first | (refine AWP.seq ?_) | (refine AWP.region av_ok ?_; conv => whnf) | (refine AWP.ret ?_; conv => whnf) | (refine AWP.skip ?_; conv => whnf) | (refine AWP.exit ?_; conv => whnf) | (refine AWP.block ?_; conv => whnf) | (refine AWP.cond ?_; conv => whnf) | (refine AB.tt ?_; conv => whnf) | (refine AB.ff ?_; conv => whnf) | (refine AB.ofT (by assumption) ?_; conv => whnf) | (refine AB.ofF (by assumption) ?_; conv => whnf) | (refine ACall.pure bp rfl ?_; conv => whnf) | (refine ACall.meth rm [(15, 901)] rfl rfl ?_; conv => whnf) | (refine ACall.upd b0 901 rfl rfl rfl ?_; conv => whnf) | (refine ACall.upd b1 901 rfl rfl rfl ?_; conv => whnf) | (refine ACall.meth bf [(1000, 901), (6, 902)] rfl rfl ?_; conv => whnf) | (refine ACall.upd b4 901 rfl rfl rfl ?_; conv => whnf) | (refine ACall.upd s0 901 rfl rfl rfl ?_; conv => whnf) | (refine ACall.upd s1 901 rfl rfl rfl ?_; conv => whnf) | (refine ACall.upd s2 901 rfl rfl rfl ?_; conv => whnf) | (refine AB.ofT (by decide) ?_; conv => whnf) | (refine AB.ofF (by decide) ?_; conv => whnf) | (refine AW.i64 (by omega) (by omega) ?_; conv => whnf) | (refine ACall.scalar sp rfl rfl ?_; conv => whnf) | (refine ACall.meth m [] rfl rfl ?_; conv => whnf) | (refine ACall.meth wm [(1000, 901), (6, 904)] rfl rfl ?_; conv => whnf) | (refine AIx.at 0 _ rfl rfl ?_; conv => whnf) | (refine AIx.at 1 _ rfl rfl ?_; conv => whnf) | (refine ACall.pure wp rfl ?_; conv => whnf) | (refine ACall.pure tw rfl ?_; conv => whnf) | (refine ACall.meth lm [(1000, 901), (1001, 77), (13, 905)] rfl rfl ?_; conv => whnf) | (refine ACall.pure ep rfl ?_; conv => whnf) | (refine ACall.pure te rfl ?_; conv => whnf) | (refine ACall.pure op rfl ?_; conv => whnf) | (refine ACall.pure tO rfl ?_; conv => whnf) | (refine ACall.meth mq [] rfl rfl ?_; conv => whnf) | (refine ACall.scalar lp rfl rfl ?_; conv => whnf) | (refine AOp.eqWant x rfl rfl rfl ?_; conv => whnf) | (refine AOp.eqEntry e1 rfl rfl rfl ?_; conv => whnf) | (refine AOp.eqOp e1.op e1.op rfl rfl rfl ?_; conv => whnf) | (refine AB.ofT (beq_self_eq_true _) ?_; conv => whnf) | (refine sz_and (by simp only [List.length_append, List.toList_toArray, List.length_cons, List.length_nil]; omega) ?_; conv => whnf) | (exact trivial) | (refine And.intro rfl ?_; conv => whnf) | (refine AB.mk (fun h => ?_) (fun h => ?_) <;> (conv => whnf)) | (with_reducible_and_instances rfl) | (exact (rfl : AP.tup _ = AP.tup _)))
        rw [beq_self_eq_true]
      · simp only at m
        refine pcall_of av_ok Tryd.func13 rfl Tryd.call13 Tryd.ntmps13 (congrArg Array.toList Tryd.results13) fun S => ?_; conv => whnf
        repeat' (first | (refine AWP.seq ?_) | (refine AWP.region av_ok ?_; conv => whnf) | (refine AWP.ret ?_; conv => whnf) | (refine AWP.skip ?_; conv => whnf) | (refine AWP.exit ?_; conv => whnf) | (refine AWP.block ?_; conv => whnf) | (refine AWP.cond ?_; conv => whnf) | (refine AB.tt ?_; conv => whnf) | (refine AB.ff ?_; conv => whnf) | (refine AB.ofT (by assumption) ?_; conv => whnf) | (refine AB.ofF (by assumption) ?_; conv => whnf) | (refine ACall.pure bp rfl ?_; conv => whnf) | (refine ACall.meth rm [(15, 901)] rfl rfl ?_; conv => whnf) | (refine ACall.upd b0 901 rfl rfl rfl ?_; conv => whnf) | (refine ACall.upd b1 901 rfl rfl rfl ?_; conv => whnf) | (refine ACall.meth bf [(1000, 901), (6, 902)] rfl rfl ?_; conv => whnf) | (refine ACall.upd b4 901 rfl rfl rfl ?_; conv => whnf) | (refine ACall.upd s0 901 rfl rfl rfl ?_; conv => whnf) | (refine ACall.upd s1 901 rfl rfl rfl ?_; conv => whnf) | (refine ACall.upd s2 901 rfl rfl rfl ?_; conv => whnf) | (refine AB.ofT (by decide) ?_; conv => whnf) | (refine AB.ofF (by decide) ?_; conv => whnf) | (refine AW.i64 (by omega) (by omega) ?_; conv => whnf) | (refine ACall.scalar sp rfl rfl ?_; conv => whnf) | (refine ACall.meth m [(901, 903)] rfl rfl ?_; conv => whnf) | (refine ACall.meth wm [(1000, 901), (6, 904)] rfl rfl ?_; conv => whnf) | (refine AIx.at 0 _ rfl rfl ?_; conv => whnf) | (refine AIx.at 1 _ rfl rfl ?_; conv => whnf) | (refine ACall.pure wp rfl ?_; conv => whnf) | (refine ACall.pure tw rfl ?_; conv => whnf) | (refine ACall.meth lm [(1000, 901), (1001, 77), (13, 905)] rfl rfl ?_; conv => whnf) | (refine ACall.pure ep rfl ?_; conv => whnf) | (refine ACall.pure te rfl ?_; conv => whnf) | (refine ACall.pure op rfl ?_; conv => whnf) | (refine ACall.pure tO rfl ?_; conv => whnf) | (refine ACall.meth mq [] rfl rfl ?_; conv => whnf) | (refine ACall.scalar lp rfl rfl ?_; conv => whnf) | (refine AOp.eqWant x rfl rfl rfl ?_; conv => whnf) | (refine AOp.eqEntry e1 rfl rfl rfl ?_; conv => whnf) | (refine AOp.eqOp e1.op e1.op rfl rfl rfl ?_; conv => whnf) | (refine AB.ofT (beq_self_eq_true _) ?_; conv => whnf) | (refine sz_and (by simp only [List.length_append, List.toList_toArray, List.length_cons, List.length_nil]; omega) ?_; conv => whnf) | (exact trivial) | (refine And.intro rfl ?_; conv => whnf) | (refine AB.mk (fun h => ?_) (fun h => ?_) <;> (conv => whnf)) | (with_reducible_and_instances rfl) | (exact (rfl : AP.tup _ = AP.tup _)))
        rw [beq_self_eq_true]
    · have s0 := below_m (d1.skip 1) 2 (hd1.skip 1) (by omega)
      have q0 := (hd1.skip 1).val (n := 2) (by omega)
      generalize (d1.skip 1).val 2 = u0 at s0 q0
      have s1 := below_m (d1.skip 2) 6 (hd1.skip 2) (by omega)
      have q1 := (hd1.skip 2).val (n := 6) (by omega)
      generalize (d1.skip 2).val 6 = u1 at s1 q1
      have s2 := below_m (d1.skip 3) 6 (hd1.skip 3) (by omega)
      have q2 := (hd1.skip 3).val (n := 6) (by omega)
      generalize (d1.skip 3).val 6 = u2 at s2 q2
      obtain ⟨x, d2, e0, e1, d3, wm, lm, tw, te, tO, mq, ip⟩ := stepTail ⟨9 + u0, u1, u2, 0, []⟩ (stepOk_cut q0 q1 q2) (d1.skip 4) (hd1.skip 4)
      have hsl := stepTextL_len ⟨9 + u0, u1, u2, 0, []⟩
      have sp := iStepText_p ⟨9 + u0, u1, u2, 0, []⟩
      have wp := iWantText_p x
      have ep := iEntryText_p e1
      have op := iOpText_p e1.op
      have lp := likeInts_p [] (by simp)
      rcases ip with ⟨hf, m⟩ | ⟨_, m⟩
      · simp only at hf m
        refine pcall_of av_ok Tryd.func13 rfl Tryd.call13 Tryd.ntmps13 (congrArg Array.toList Tryd.results13) fun S => ?_; conv => whnf
        repeat' (first | (refine AWP.seq ?_) | (refine AWP.region av_ok ?_; conv => whnf) | (refine AWP.ret ?_; conv => whnf) | (refine AWP.skip ?_; conv => whnf) | (refine AWP.exit ?_; conv => whnf) | (refine AWP.block ?_; conv => whnf) | (refine AWP.cond ?_; conv => whnf) | (refine AB.tt ?_; conv => whnf) | (refine AB.ff ?_; conv => whnf) | (refine AB.ofT (by assumption) ?_; conv => whnf) | (refine AB.ofF (by assumption) ?_; conv => whnf) | (refine ACall.pure bp rfl ?_; conv => whnf) | (refine ACall.meth rm [(15, 901)] rfl rfl ?_; conv => whnf) | (refine ACall.upd b0 901 rfl rfl rfl ?_; conv => whnf) | (refine ACall.upd b1 901 rfl rfl rfl ?_; conv => whnf) | (refine ACall.meth bf [(1000, 901), (6, 902)] rfl rfl ?_; conv => whnf) | (refine ACall.upd b4 901 rfl rfl rfl ?_; conv => whnf) | (refine ACall.upd s0 901 rfl rfl rfl ?_; conv => whnf) | (refine ACall.upd s1 901 rfl rfl rfl ?_; conv => whnf) | (refine ACall.upd s2 901 rfl rfl rfl ?_; conv => whnf) | (refine AB.ofT (by decide) ?_; conv => whnf) | (refine AB.ofF (by decide) ?_; conv => whnf) | (refine AW.i64 (by omega) (by omega) ?_; conv => whnf) | (refine ACall.scalar sp rfl rfl ?_; conv => whnf) | (refine ACall.meth m [] rfl rfl ?_; conv => whnf) | (refine ACall.meth wm [(1000, 901), (6, 904)] rfl rfl ?_; conv => whnf) | (refine AIx.at 0 _ rfl rfl ?_; conv => whnf) | (refine AIx.at 1 _ rfl rfl ?_; conv => whnf) | (refine ACall.pure wp rfl ?_; conv => whnf) | (refine ACall.pure tw rfl ?_; conv => whnf) | (refine ACall.meth lm [(1000, 901), (1001, 77), (13, 905)] rfl rfl ?_; conv => whnf) | (refine ACall.pure ep rfl ?_; conv => whnf) | (refine ACall.pure te rfl ?_; conv => whnf) | (refine ACall.pure op rfl ?_; conv => whnf) | (refine ACall.pure tO rfl ?_; conv => whnf) | (refine ACall.meth mq [] rfl rfl ?_; conv => whnf) | (refine ACall.scalar lp rfl rfl ?_; conv => whnf) | (refine AOp.eqWant x rfl rfl rfl ?_; conv => whnf) | (refine AOp.eqEntry e1 rfl rfl rfl ?_; conv => whnf) | (refine AOp.eqOp e1.op e1.op rfl rfl rfl ?_; conv => whnf) | (refine AB.ofT (beq_self_eq_true _) ?_; conv => whnf) | (refine sz_and (by simp only [List.length_append, List.toList_toArray, List.length_cons, List.length_nil]; omega) ?_; conv => whnf) | (exact trivial) | (refine And.intro rfl ?_; conv => whnf) | (refine AB.mk (fun h => ?_) (fun h => ?_) <;> (conv => whnf)) | (with_reducible_and_instances rfl) | (exact (rfl : AP.tup _ = AP.tup _)))
        rw [beq_self_eq_true]
      · simp only at m
        refine pcall_of av_ok Tryd.func13 rfl Tryd.call13 Tryd.ntmps13 (congrArg Array.toList Tryd.results13) fun S => ?_; conv => whnf
        repeat' (first | (refine AWP.seq ?_) | (refine AWP.region av_ok ?_; conv => whnf) | (refine AWP.ret ?_; conv => whnf) | (refine AWP.skip ?_; conv => whnf) | (refine AWP.exit ?_; conv => whnf) | (refine AWP.block ?_; conv => whnf) | (refine AWP.cond ?_; conv => whnf) | (refine AB.tt ?_; conv => whnf) | (refine AB.ff ?_; conv => whnf) | (refine AB.ofT (by assumption) ?_; conv => whnf) | (refine AB.ofF (by assumption) ?_; conv => whnf) | (refine ACall.pure bp rfl ?_; conv => whnf) | (refine ACall.meth rm [(15, 901)] rfl rfl ?_; conv => whnf) | (refine ACall.upd b0 901 rfl rfl rfl ?_; conv => whnf) | (refine ACall.upd b1 901 rfl rfl rfl ?_; conv => whnf) | (refine ACall.meth bf [(1000, 901), (6, 902)] rfl rfl ?_; conv => whnf) | (refine ACall.upd b4 901 rfl rfl rfl ?_; conv => whnf) | (refine ACall.upd s0 901 rfl rfl rfl ?_; conv => whnf) | (refine ACall.upd s1 901 rfl rfl rfl ?_; conv => whnf) | (refine ACall.upd s2 901 rfl rfl rfl ?_; conv => whnf) | (refine AB.ofT (by decide) ?_; conv => whnf) | (refine AB.ofF (by decide) ?_; conv => whnf) | (refine AW.i64 (by omega) (by omega) ?_; conv => whnf) | (refine ACall.scalar sp rfl rfl ?_; conv => whnf) | (refine ACall.meth m [(901, 903)] rfl rfl ?_; conv => whnf) | (refine ACall.meth wm [(1000, 901), (6, 904)] rfl rfl ?_; conv => whnf) | (refine AIx.at 0 _ rfl rfl ?_; conv => whnf) | (refine AIx.at 1 _ rfl rfl ?_; conv => whnf) | (refine ACall.pure wp rfl ?_; conv => whnf) | (refine ACall.pure tw rfl ?_; conv => whnf) | (refine ACall.meth lm [(1000, 901), (1001, 77), (13, 905)] rfl rfl ?_; conv => whnf) | (refine ACall.pure ep rfl ?_; conv => whnf) | (refine ACall.pure te rfl ?_; conv => whnf) | (refine ACall.pure op rfl ?_; conv => whnf) | (refine ACall.pure tO rfl ?_; conv => whnf) | (refine ACall.meth mq [] rfl rfl ?_; conv => whnf) | (refine ACall.scalar lp rfl rfl ?_; conv => whnf) | (refine AOp.eqWant x rfl rfl rfl ?_; conv => whnf) | (refine AOp.eqEntry e1 rfl rfl rfl ?_; conv => whnf) | (refine AOp.eqOp e1.op e1.op rfl rfl rfl ?_; conv => whnf) | (refine AB.ofT (beq_self_eq_true _) ?_; conv => whnf) | (refine sz_and (by simp only [List.length_append, List.toList_toArray, List.length_cons, List.length_nil]; omega) ?_; conv => whnf) | (exact trivial) | (refine And.intro rfl ?_; conv => whnf) | (refine AB.mk (fun h => ?_) (fun h => ?_) <;> (conv => whnf)) | (with_reducible_and_instances rfl) | (exact (rfl : AP.tup _ = AP.tup _)))
        rw [beq_self_eq_true]
    · have s0 := below_m (d1.skip 1) 2 (hd1.skip 1) (by omega)
      have q0 := (hd1.skip 1).val (n := 2) (by omega)
      generalize (d1.skip 1).val 2 = u0 at s0 q0
      have s1 := below_m (d1.skip 2) 6 (hd1.skip 2) (by omega)
      have q1 := (hd1.skip 2).val (n := 6) (by omega)
      generalize (d1.skip 2).val 6 = u1 at s1 q1
      have s2 := below_m (d1.skip 3) 99 (hd1.skip 3) (by omega)
      have q2 := (hd1.skip 3).val (n := 99) (by omega)
      generalize (d1.skip 3).val 99 = u2 at s2 q2
      obtain ⟨x, d2, e0, e1, d3, wm, lm, tw, te, tO, mq, ip⟩ := stepTail ⟨3 + u0, u1, 1 + u2, 0, []⟩ (stepOk_time q0 q1 q2) (d1.skip 4) (hd1.skip 4)
      have hsl := stepTextL_len ⟨3 + u0, u1, 1 + u2, 0, []⟩
      have sp := iStepText_p ⟨3 + u0, u1, 1 + u2, 0, []⟩
      have wp := iWantText_p x
      have ep := iEntryText_p e1
      have op := iOpText_p e1.op
      have lp := likeInts_p [] (by simp)
      rcases ip with ⟨hf, m⟩ | ⟨_, m⟩
      · simp only at hf m
        refine pcall_of av_ok Tryd.func13 rfl Tryd.call13 Tryd.ntmps13 (congrArg Array.toList Tryd.results13) fun S => ?_; conv => whnf
        repeat' (first | (refine AWP.seq ?_) | (refine AWP.region av_ok ?_; conv => whnf) | (refine AWP.ret ?_; conv => whnf) | (refine AWP.skip ?_; conv => whnf) | (refine AWP.exit ?_; conv => whnf) | (refine AWP.block ?_; conv => whnf) | (refine AWP.cond ?_; conv => whnf) | (refine AB.tt ?_; conv => whnf) | (refine AB.ff ?_; conv => whnf) | (refine AB.ofT (by assumption) ?_; conv => whnf) | (refine AB.ofF (by assumption) ?_; conv => whnf) | (refine ACall.pure bp rfl ?_; conv => whnf) | (refine ACall.meth rm [(15, 901)] rfl rfl ?_; conv => whnf) | (refine ACall.upd b0 901 rfl rfl rfl ?_; conv => whnf) | (refine ACall.upd b1 901 rfl rfl rfl ?_; conv => whnf) | (refine ACall.meth bf [(1000, 901), (6, 902)] rfl rfl ?_; conv => whnf) | (refine ACall.upd b4 901 rfl rfl rfl ?_; conv => whnf) | (refine ACall.upd s0 901 rfl rfl rfl ?_; conv => whnf) | (refine ACall.upd s1 901 rfl rfl rfl ?_; conv => whnf) | (refine ACall.upd s2 901 rfl rfl rfl ?_; conv => whnf) | (refine AB.ofT (by decide) ?_; conv => whnf) | (refine AB.ofF (by decide) ?_; conv => whnf) | (refine AW.i64 (by omega) (by omega) ?_; conv => whnf) | (refine ACall.scalar sp rfl rfl ?_; conv => whnf) | (refine ACall.meth m [] rfl rfl ?_; conv => whnf) | (refine ACall.meth wm [(1000, 901), (6, 904)] rfl rfl ?_; conv => whnf) | (refine AIx.at 0 _ rfl rfl ?_; conv => whnf) | (refine AIx.at 1 _ rfl rfl ?_; conv => whnf) | (refine ACall.pure wp rfl ?_; conv => whnf) | (refine ACall.pure tw rfl ?_; conv => whnf) | (refine ACall.meth lm [(1000, 901), (1001, 77), (13, 905)] rfl rfl ?_; conv => whnf) | (refine ACall.pure ep rfl ?_; conv => whnf) | (refine ACall.pure te rfl ?_; conv => whnf) | (refine ACall.pure op rfl ?_; conv => whnf) | (refine ACall.pure tO rfl ?_; conv => whnf) | (refine ACall.meth mq [] rfl rfl ?_; conv => whnf) | (refine ACall.scalar lp rfl rfl ?_; conv => whnf) | (refine AOp.eqWant x rfl rfl rfl ?_; conv => whnf) | (refine AOp.eqEntry e1 rfl rfl rfl ?_; conv => whnf) | (refine AOp.eqOp e1.op e1.op rfl rfl rfl ?_; conv => whnf) | (refine AB.ofT (beq_self_eq_true _) ?_; conv => whnf) | (refine sz_and (by simp only [List.length_append, List.toList_toArray, List.length_cons, List.length_nil]; omega) ?_; conv => whnf) | (exact trivial) | (refine And.intro rfl ?_; conv => whnf) | (refine AB.mk (fun h => ?_) (fun h => ?_) <;> (conv => whnf)) | (with_reducible_and_instances rfl) | (exact (rfl : AP.tup _ = AP.tup _)))
        rw [beq_self_eq_true]
      · simp only at m
        refine pcall_of av_ok Tryd.func13 rfl Tryd.call13 Tryd.ntmps13 (congrArg Array.toList Tryd.results13) fun S => ?_; conv => whnf
        repeat' (first | (refine AWP.seq ?_) | (refine AWP.region av_ok ?_; conv => whnf) | (refine AWP.ret ?_; conv => whnf) | (refine AWP.skip ?_; conv => whnf) | (refine AWP.exit ?_; conv => whnf) | (refine AWP.block ?_; conv => whnf) | (refine AWP.cond ?_; conv => whnf) | (refine AB.tt ?_; conv => whnf) | (refine AB.ff ?_; conv => whnf) | (refine AB.ofT (by assumption) ?_; conv => whnf) | (refine AB.ofF (by assumption) ?_; conv => whnf) | (refine ACall.pure bp rfl ?_; conv => whnf) | (refine ACall.meth rm [(15, 901)] rfl rfl ?_; conv => whnf) | (refine ACall.upd b0 901 rfl rfl rfl ?_; conv => whnf) | (refine ACall.upd b1 901 rfl rfl rfl ?_; conv => whnf) | (refine ACall.meth bf [(1000, 901), (6, 902)] rfl rfl ?_; conv => whnf) | (refine ACall.upd b4 901 rfl rfl rfl ?_; conv => whnf) | (refine ACall.upd s0 901 rfl rfl rfl ?_; conv => whnf) | (refine ACall.upd s1 901 rfl rfl rfl ?_; conv => whnf) | (refine ACall.upd s2 901 rfl rfl rfl ?_; conv => whnf) | (refine AB.ofT (by decide) ?_; conv => whnf) | (refine AB.ofF (by decide) ?_; conv => whnf) | (refine AW.i64 (by omega) (by omega) ?_; conv => whnf) | (refine ACall.scalar sp rfl rfl ?_; conv => whnf) | (refine ACall.meth m [(901, 903)] rfl rfl ?_; conv => whnf) | (refine ACall.meth wm [(1000, 901), (6, 904)] rfl rfl ?_; conv => whnf) | (refine AIx.at 0 _ rfl rfl ?_; conv => whnf) | (refine AIx.at 1 _ rfl rfl ?_; conv => whnf) | (refine ACall.pure wp rfl ?_; conv => whnf) | (refine ACall.pure tw rfl ?_; conv => whnf) | (refine ACall.meth lm [(1000, 901), (1001, 77), (13, 905)] rfl rfl ?_; conv => whnf) | (refine ACall.pure ep rfl ?_; conv => whnf) | (refine ACall.pure te rfl ?_; conv => whnf) | (refine ACall.pure op rfl ?_; conv => whnf) | (refine ACall.pure tO rfl ?_; conv => whnf) | (refine ACall.meth mq [] rfl rfl ?_; conv => whnf) | (refine ACall.scalar lp rfl rfl ?_; conv => whnf) | (refine AOp.eqWant x rfl rfl rfl ?_; conv => whnf) | (refine AOp.eqEntry e1 rfl rfl rfl ?_; conv => whnf) | (refine AOp.eqOp e1.op e1.op rfl rfl rfl ?_; conv => whnf) | (refine AB.ofT (beq_self_eq_true _) ?_; conv => whnf) | (refine sz_and (by simp only [List.length_append, List.toList_toArray, List.length_cons, List.length_nil]; omega) ?_; conv => whnf) | (exact trivial) | (refine And.intro rfl ?_; conv => whnf) | (refine AB.mk (fun h => ?_) (fun h => ?_) <;> (conv => whnf)) | (with_reducible_and_instances rfl) | (exact (rfl : AP.tup _ = AP.tup _)))
        rw [beq_self_eq_true]
    · have hFl := fatesB_l hF
      obtain ⟨x, d2, e0, e1, d3, wm, lm, tw, te, tO, mq, ip⟩ := stepTail ⟨5, a0, 0, 0, F⟩ (stepOk_fall r0 hF) (d1.skip 1) (hd1.skip 1)
      have hsl := stepTextL_len ⟨5, a0, 0, 0, F⟩
      have sp := iStepText_p ⟨5, a0, 0, 0, F⟩
      have wp := iWantText_p x
      have ep := iEntryText_p e1
      have op := iOpText_p e1.op
      have lp := likeInts_p F (by omega)
      rcases ip with ⟨hf, m⟩ | ⟨_, m⟩
      · simp only at hf m
        subst hf
        refine pcall_of av_ok Tryd.func13 rfl Tryd.call13 Tryd.ntmps13 (congrArg Array.toList Tryd.results13) fun S => ?_; conv => whnf
        repeat' (first | (refine AWP.seq ?_) | (refine AWP.region av_ok ?_; conv => whnf) | (refine AWP.ret ?_; conv => whnf) | (refine AWP.skip ?_; conv => whnf) | (refine AWP.exit ?_; conv => whnf) | (refine AWP.block ?_; conv => whnf) | (refine AWP.cond ?_; conv => whnf) | (refine AB.tt ?_; conv => whnf) | (refine AB.ff ?_; conv => whnf) | (refine AB.ofT (by assumption) ?_; conv => whnf) | (refine AB.ofF (by assumption) ?_; conv => whnf) | (refine ACall.pure bp rfl ?_; conv => whnf) | (refine ACall.meth rm [(15, 901)] rfl rfl ?_; conv => whnf) | (refine ACall.upd b0 901 rfl rfl rfl ?_; conv => whnf) | (refine ACall.upd b1 901 rfl rfl rfl ?_; conv => whnf) | (refine ACall.meth bf [(1000, 901), (6, 902)] rfl rfl ?_; conv => whnf) | (refine ACall.upd b4 901 rfl rfl rfl ?_; conv => whnf) | (refine ACall.upd s0 901 rfl rfl rfl ?_; conv => whnf) | (refine ACall.upd s1 901 rfl rfl rfl ?_; conv => whnf) | (refine ACall.upd s2 901 rfl rfl rfl ?_; conv => whnf) | (refine AB.ofT (by decide) ?_; conv => whnf) | (refine AB.ofF (by decide) ?_; conv => whnf) | (refine AW.i64 (by omega) (by omega) ?_; conv => whnf) | (refine ACall.scalar sp rfl rfl ?_; conv => whnf) | (refine ACall.meth m [] rfl rfl ?_; conv => whnf) | (refine ACall.meth wm [(1000, 901), (6, 904)] rfl rfl ?_; conv => whnf) | (refine AIx.at 0 _ rfl rfl ?_; conv => whnf) | (refine AIx.at 1 _ rfl rfl ?_; conv => whnf) | (refine ACall.pure wp rfl ?_; conv => whnf) | (refine ACall.pure tw rfl ?_; conv => whnf) | (refine ACall.meth lm [(1000, 901), (1001, 77), (13, 905)] rfl rfl ?_; conv => whnf) | (refine ACall.pure ep rfl ?_; conv => whnf) | (refine ACall.pure te rfl ?_; conv => whnf) | (refine ACall.pure op rfl ?_; conv => whnf) | (refine ACall.pure tO rfl ?_; conv => whnf) | (refine ACall.meth mq [] rfl rfl ?_; conv => whnf) | (refine ACall.scalar lp rfl rfl ?_; conv => whnf) | (refine AOp.eqWant x rfl rfl rfl ?_; conv => whnf) | (refine AOp.eqEntry e1 rfl rfl rfl ?_; conv => whnf) | (refine AOp.eqOp e1.op e1.op rfl rfl rfl ?_; conv => whnf) | (refine AB.ofT (beq_self_eq_true _) ?_; conv => whnf) | (refine sz_and (by simp only [List.length_append, List.toList_toArray, List.length_cons, List.length_nil]; omega) ?_; conv => whnf) | (exact trivial) | (refine And.intro rfl ?_; conv => whnf) | (refine AB.mk (fun h => ?_) (fun h => ?_) <;> (conv => whnf)) | (with_reducible_and_instances rfl) | (exact (rfl : AP.tup _ = AP.tup _)))
        rw [beq_self_eq_true]
      · simp only at m
        refine pcall_of av_ok Tryd.func13 rfl Tryd.call13 Tryd.ntmps13 (congrArg Array.toList Tryd.results13) fun S => ?_; conv => whnf
        repeat' (first | (refine AWP.seq ?_) | (refine AWP.region av_ok ?_; conv => whnf) | (refine AWP.ret ?_; conv => whnf) | (refine AWP.skip ?_; conv => whnf) | (refine AWP.exit ?_; conv => whnf) | (refine AWP.block ?_; conv => whnf) | (refine AWP.cond ?_; conv => whnf) | (refine AB.tt ?_; conv => whnf) | (refine AB.ff ?_; conv => whnf) | (refine AB.ofT (by assumption) ?_; conv => whnf) | (refine AB.ofF (by assumption) ?_; conv => whnf) | (refine ACall.pure bp rfl ?_; conv => whnf) | (refine ACall.meth rm [(15, 901)] rfl rfl ?_; conv => whnf) | (refine ACall.upd b0 901 rfl rfl rfl ?_; conv => whnf) | (refine ACall.upd b1 901 rfl rfl rfl ?_; conv => whnf) | (refine ACall.meth bf [(1000, 901), (6, 902)] rfl rfl ?_; conv => whnf) | (refine ACall.upd b4 901 rfl rfl rfl ?_; conv => whnf) | (refine ACall.upd s0 901 rfl rfl rfl ?_; conv => whnf) | (refine ACall.upd s1 901 rfl rfl rfl ?_; conv => whnf) | (refine ACall.upd s2 901 rfl rfl rfl ?_; conv => whnf) | (refine AB.ofT (by decide) ?_; conv => whnf) | (refine AB.ofF (by decide) ?_; conv => whnf) | (refine AW.i64 (by omega) (by omega) ?_; conv => whnf) | (refine ACall.scalar sp rfl rfl ?_; conv => whnf) | (refine ACall.meth m [(901, 903)] rfl rfl ?_; conv => whnf) | (refine ACall.meth wm [(1000, 901), (6, 904)] rfl rfl ?_; conv => whnf) | (refine AIx.at 0 _ rfl rfl ?_; conv => whnf) | (refine AIx.at 1 _ rfl rfl ?_; conv => whnf) | (refine ACall.pure wp rfl ?_; conv => whnf) | (refine ACall.pure tw rfl ?_; conv => whnf) | (refine ACall.meth lm [(1000, 901), (1001, 77), (13, 905)] rfl rfl ?_; conv => whnf) | (refine ACall.pure ep rfl ?_; conv => whnf) | (refine ACall.pure te rfl ?_; conv => whnf) | (refine ACall.pure op rfl ?_; conv => whnf) | (refine ACall.pure tO rfl ?_; conv => whnf) | (refine ACall.meth mq [] rfl rfl ?_; conv => whnf) | (refine ACall.scalar lp rfl rfl ?_; conv => whnf) | (refine AOp.eqWant x rfl rfl rfl ?_; conv => whnf) | (refine AOp.eqEntry e1 rfl rfl rfl ?_; conv => whnf) | (refine AOp.eqOp e1.op e1.op rfl rfl rfl ?_; conv => whnf) | (refine AB.ofT (beq_self_eq_true _) ?_; conv => whnf) | (refine sz_and (by simp only [List.length_append, List.toList_toArray, List.length_cons, List.length_nil]; omega) ?_; conv => whnf) | (exact trivial) | (refine And.intro rfl ?_; conv => whnf) | (refine AB.mk (fun h => ?_) (fun h => ?_) <;> (conv => whnf)) | (with_reducible_and_instances rfl) | (exact (rfl : AP.tup _ = AP.tup _)))
        rw [beq_self_eq_true]
end Go.Proofs.YtlhanpkfnhnegaaDoor
