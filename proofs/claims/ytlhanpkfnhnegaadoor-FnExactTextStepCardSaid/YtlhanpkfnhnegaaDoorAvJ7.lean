/- Joined by join.py: AvX1 AvWF AvWG AvWH AvWI AvX2 AvX3 -/
import Derived.Test.YtlhanpkfnhnegaaDoorAvJ4
import Derived.Test.YtlhanpkfnhnegaaDoorAvJ6
import Derived.Test.YtlhanpkfnhnegaaDoorAvS4
import Derived.Test.YtlhanpkfnhnegaaDoorAvS5
import Derived.Test.YtlhanpkfnhnegaaDoorAvS6
set_option linter.unusedVariables false
set_option linter.unusedSimpArgs false
set_option maxRecDepth 100000
/- Contracts of calls that are handed rows which they write in place: the rows stay where they are. -/
namespace Go.Proofs.YtlhanpkfnhnegaaDoor
open Go.RowKit

def pinsR (keep : List Nat) : List AV := keep.map fun id => .one (.own id)
def isRow (ob : List (Nat × AO)) (i : Nat) : Bool := match oget ob i with
  | some (.row _ _ _) => true
  | _ => false
theorem isRow_get {ob : List (Nat × AO)} {i : Nat} (h : isRow ob i = true) : ∃ e s xs, oget ob i = some (.row e s xs) := by
  unfold isRow at h
  split at h
  · rename_i e s xs e'; exact ⟨e, s, xs, e'⟩
  · cases h
def preOkR (args : List AA) (pre : List (Nat × AO)) (keep : List Nat) : Bool :=
  args.all (noIdA 9999) && pre.all (fun p => noIdO 9999 p.2) && !aHasO pre 9999 && keep.all (isRow pre)
def retMR (E : AEnv) (rs : List ResultVar) (post : List (Nat × AO)) (keep : List Nat) (pv : List Value) (res : AR) : Exit → ASt → Prop
  | .ret, st => aRetM E st post rs fun v => v = res ∧ aHave st.ob ((9999, .frame (pinsR keep) pv) :: post)
  | .normal, st => aRetM E st post rs fun v => v = res ∧ aHave st.ob ((9999, .frame (pinsR keep) pv) :: post)
  | _, _ => False

theorem mcall_ofR {E : AEnv} (he : E.Ok) {f : FuncId} {fn : Func} {c : Code} {n : Nat} {rs : List ResultVar} {args : List AA} {pre post : List (Nat × AO)} {keep : List Nat} {res : AR} (hf : E.P.funcs[f]? = some fn) (hb : fn.body = some c)
    (enter : ∀ (us : Array Value) w, (callFunc f us).run E.P w = .ok (.enter f us) w) (hn : fn.ntmps = n) (hrs : fn.results.toList = rs)
    (hck : preOkR args pre keep = true)
    (h : ∀ S pv, aInitM args n fun tm => AWP E S c (retMR E rs post keep pv res) ⟨tm, (9999, .frame (pinsR keep) pv) :: pre⟩) : MCall E f args pre post keep res := by
  refine ⟨enter, fun Z w ρ us hws hl hr => ?_⟩
  subst hn hrs
  simp only [preOkR, Bool.and_eq_true, List.all_eq_true, Bool.not_eq_true'] at hck
  obtain ⟨⟨⟨hna, hnp⟩, hnh⟩, hkk⟩ := hck
  have hp9 := aHasO_no hnh
  obtain ⟨hle, hk⟩ := aInitM_get (h (baseM w Z ρ pre) (keep.map ρ))
  have relV : ∀ {x : AV} {v : Value}, noIdV 9999 x = true → RelV Z w ρ x v → RelV Z w (fun i => if i = 9999 then undef else ρ i) x v := by
    intro x v hn hv
    have := killV_rel (id := 9999) (y := undef) hv
    rwa [noIdV_kill hn] at this
  have hs : Sim E.W (baseM w Z ρ pre) Z (fun i => if i = 9999 then undef else ρ i) ⟨args.map AA.v ++ List.replicate (fn.ntmps - args.length) (.one .und), (9999, .frame (pinsR keep) (keep.map ρ)) :: pre⟩ { tmps := us.toArray ++ Array.replicate (fn.ntmps - us.toArray.size) undef, defers := [] } w := by
    have key : ∀ id o, oget ((9999, AO.frame (pinsR keep) (keep.map ρ)) :: pre) id = some o → (id = 9999 ∧ o = .frame (pinsR keep) (keep.map ρ)) ∨ (id ≠ 9999 ∧ oget pre id = some o) := by
      intro id o ho
      unfold oget at ho
      split at ho
      · rename_i e; subst e; injection ho with ho; exact .inl ⟨rfl, ho.symm⟩
      · rename_i e; exact .inr ⟨fun e' => e e'.symm, ho⟩
    refine ⟨⟨hws.os, hws.tape, hws.output, hws.size, hws.old, hws.zlt, fun id o b ho hb => ?_, fun i j oi oj b hi hj hij hbi hbj => ?_, fun id o ho => ?_, hws.g, hws.z0, hws.znew⟩, by simp [hl], fun i x v hx hv => ?_, rfl⟩
    · rcases key id o ho with ⟨rfl, rfl⟩ | ⟨hne, ho⟩
      · simp only [if_true] at hb; cases hb
      · simp only [if_neg hne] at hb; exact hws.mine id o b ho hb
    · rcases key i oi hi with ⟨rfl, rfl⟩ | ⟨hne, hi⟩
      · simp only [if_true] at hbi; cases hbi
      · rcases key j oj hj with ⟨rfl, rfl⟩ | ⟨hne2, hj⟩
        · simp only [if_true] at hbj; cases hbj
        · simp only [if_neg hne] at hbi
          simp only [if_neg hne2] at hbj
          exact hws.sep i j oi oj b hi hj hij hbi hbj
    · rcases key id o ho with ⟨rfl, rfl⟩ | ⟨hne, ho⟩
      · refine ⟨by simp, by simp [pinsR], fun i x u hx hu => ?_⟩
        simp only [pinsR, List.getElem?_map] at hx hu
        obtain ⟨k, hk1, rfl⟩ := Option.map_eq_some_iff.1 hx
        rw [hk1] at hu
        simp only [Option.map_some] at hu
        injection hu with hu
        subst hu
        obtain ⟨e, s, xs, hc⟩ := isRow_get (hkk k (List.mem_of_getElem? hk1))
        obtain ⟨_, _, _, _, _, hown, _⟩ := hws.obj k _ hc
        have hk9 : k ≠ 9999 := by rintro rfl; rw [hp9] at hc; cases hc
        refine .one _ _ ⟨by simp only [if_neg hk9], ?_⟩
        rcases hown.2 with ⟨h, _⟩ | ⟨g, cap, cur, h, _⟩ <;> rw [h] <;> rfl
      · have := killO_rel (id := 9999) (y := undef) hne (hws.obj id o ho)
        rwa [noIdO_kill (hnp (id, o) (oget_mem ho))] at this
    · simp only at hx hv
      have hv' : (us ++ List.replicate (fn.ntmps - us.length) undef)[i]? = some v := by
        have := hv
        rw [← Array.getElem?_toList] at this
        simpa using this
      by_cases hi : i < us.length
      · rw [List.getElem?_append_left (by simpa [hl] using hi), List.getElem?_map] at hx
        obtain ⟨p, hp, rfl⟩ := Option.map_eq_some_iff.1 hx
        rw [List.getElem?_append_left hi] at hv'
        exact relV (noIdA_v (hna p (List.mem_of_getElem? hp))) (hr i p v hp hv')
      · rw [List.getElem?_append_right (by simp; omega)] at hx
        rw [List.getElem?_append_right (by omega)] at hv'
        have e1 := List.eq_of_mem_replicate (List.mem_of_getElem? hx)
        have e2 := List.eq_of_mem_replicate (List.mem_of_getElem? hv')
        subst e1 e2
        exact .one _ _ (show RelC Z w _ .und undef from rfl)
  refine calls_of_wp hf hb (wp_mono (hk.run _ w ⟨Z, _, hs⟩) fun e a' w' h' => ?_)
  obtain ⟨st', ⟨Z', ρ', hs'⟩, hk'⟩ := h'
  have fin : (aRetM E st' post fn.results.toList fun v => v = res ∧ aHave st'.ob ((9999, .frame (pinsR keep) (keep.map ρ)) :: post)) → a'.defers = [] ∧ ∃ v, (results fn a'.tmps).run E.P w' = .ok v w' ∧ ∃ v0 Z' ρ', Ending.returned v = .returned v0 ∧ WS E.W (baseM w Z ρ pre) Z' w' ρ' post ∧ (∀ id ∈ keep, ρ' id = ρ id) ∧ RelV Z' w' ρ' res.v v0 := by
    intro hr
    obtain ⟨v, p, h1, h2, h3, h4⟩ := aRetM_get he hs' hr
    subst h3
    have hsub := aHave_get h4
    have hsubp : SubO st'.ob post := by
      obtain ⟨_, _, _, h5⟩ := aOb_get h4
      exact aHave_get h5
    refine ⟨hs'.df, v, h1, v, ZOut Z' ρ' st'.ob post, ρ', rfl, hs'.ws.out hsubp, fun id hid => ?_, h2⟩
    obtain ⟨_, hfl, hfr⟩ := hs'.ws.obj 9999 _ (hsub 9999 (.frame (pinsR keep) (keep.map ρ)) (by simp [oget]))
    obtain ⟨i, hi, hid'⟩ := List.getElem_of_mem hid
    have hx : (pinsR keep)[i]? = some (.one (.own id)) := by simp [pinsR, hi, hid']
    have hu : (keep.map ρ)[i]? = some (ρ id) := by simp [hi, hid']
    cases hfr i _ _ hx hu with
    | one _ _ hrel => exact hrel.1.symm
  cases e with
  | normal => exact fin hk'
  | ret => exact fin hk'
  | _ => exact hk'.elim
end Go.Proofs.YtlhanpkfnhnegaaDoor
/- The scanner's steps. -/
namespace Go.Proofs.YtlhanpkfnhnegaaDoor
open Go.RowKit

def fatesOf (w : List UInt8) : List Int := (w.take 121).map fun b => (b.toNat : Int) - 48
/-- The fates are read, of a word that is there. -/
def scFates (s : Sc) : Sc := if s.cur = [] then { s.next with bad := true } else s.next
theorem Sc.ok.fates {s : Sc} (h : s.ok) : (scFates s).ok := by
  have := h.next
  unfold scFates
  split <;> exact this
theorem fates_m0 (s : Sc) (hd : s.ws = []) : MCall av 148 [.one (.ref 1000 0 0 0)] [(1000, s.o)] [(1000, s.o)] [1000] (.val (.one .nil)) := by
  obtain ⟨ws, bad, at_⟩ := s
  simp only at hd
  subst hd
  refine mcall_of av_ok Tryd.func148 rfl Tryd.call148 Tryd.ntmps148 (congrArg Array.toList Tryd.results148) rfl fun S pv => ?_; conv => whnf
  repeat' (first | (refine AWP.seq ?_) | (refine AWP.region av_ok ?_; conv => whnf) | (refine AWP.ret ?_; conv => whnf) | (refine AWP.skip ?_; conv => whnf) | (refine AWP.exit ?_; conv => whnf) | (refine AWP.block ?_; conv => whnf) | (refine AWP.cond ?_; conv => whnf) | (refine AB.tt ?_; conv => whnf) | (refine AB.ff ?_; conv => whnf) | (refine AB.ofT (by assumption) ?_; conv => whnf) | (refine AB.ofF (by assumption) ?_; conv => whnf) | (exact trivial) | (refine And.intro rfl ?_; conv => whnf) | (refine AB.mk (fun h => ?_) (fun h => ?_) <;> (conv => whnf)) | (with_reducible_and_instances rfl) | (exact (rfl : AP.tup _ = AP.tup _)))
theorem fates_m1 (s : Sc) (hs : s.ok) (hd : s.ws ≠ []) : MCall av 148 [.one (.ref 1000 0 0 0)] [(1000, s.o)] [(1000, (scFates s).o), (12, .row 2 1 ((fatesOf s.cur).map eI))] [1000] (.val (.one (.own 12))) := by
  have wm := word_m s hs
  have hcl := hs.cur
  have hemp : s.ws.isEmpty = false := by
    cases h : s.ws with
    | nil => exact absurd h hd
    | cons w r => rfl
  obtain ⟨ws1, b1, a1⟩ : ∃ ws1 b1 a1, s.next = ⟨ws1, b1, a1⟩ := ⟨_, _, _, rfl⟩
  obtain ⟨a1, hs1⟩ := a1
  rw [hs1] at wm
  generalize hw : s.cur = w at *
  have e : scFates s = ⟨ws1, if w = [] then true else b1, a1⟩ := by
    unfold scFates; rw [hs1, hw]; split <;> rfl
  rw [e]
  have fin : ∀ k, k ≤ w.length → k ≤ 121 → ¬ (k < w.length ∧ k ≤ 120) → w.take k = w.take 121 := by
    intro k h1 h2 h3
    by_cases h4 : k = 121
    · subst h4; rfl
    · have : k = w.length := by omega
      subst this
      rw [List.take_length, List.take_of_length_le (by omega)]
  by_cases hnil : w = []
  · have hst : ((⟨w.toArray⟩ : ByteArray).toList == (⟨#[]⟩ : ByteArray).toList) = true := by rw [hnil]; exact (str_dec [] []).trans (by simp)
    rw [if_pos hnil]
    refine mcall_of av_ok Tryd.func148 rfl Tryd.call148 Tryd.ntmps148 (congrArg Array.toList Tryd.results148) rfl fun S pv => ?_; conv => whnf
    repeat' (first | (refine AWP.seq ?_) | (refine AWP.region av_ok ?_; conv => whnf) | (refine AWP.ret ?_; conv => whnf) | (refine AWP.skip ?_; conv => whnf) | (refine AWP.exit ?_; conv => whnf) | (refine AWP.block ?_; conv => whnf) | (refine AWP.cond ?_; conv => whnf) | (refine AB.tt ?_; conv => whnf) | (refine AB.ff ?_; conv => whnf) | (refine AB.ofT (by assumption) ?_; conv => whnf) | (refine AB.ofF (by assumption) ?_; conv => whnf) | (refine ACall.upd wm 1000 rfl rfl rfl ?_; conv => whnf) | (exact trivial) | (refine And.intro rfl ?_; conv => whnf) | (refine AB.mk (fun h => ?_) (fun h => ?_) <;> (conv => whnf)) | (with_reducible_and_instances rfl) | (exact (rfl : AP.tup _ = AP.tup _)))
    subst hnil
    refine AWP.unroll 1 ?_
    conv => whnf
    repeat' (first | (refine AWP.seq ?_) | (refine AWP.region av_ok ?_; conv => whnf) | (refine AWP.ret ?_; conv => whnf) | (refine AWP.skip ?_; conv => whnf) | (refine AWP.exit ?_; conv => whnf) | (refine AWP.block ?_; conv => whnf) | (refine AWP.cond ?_; conv => whnf) | (refine AB.tt ?_; conv => whnf) | (refine AB.ff ?_; conv => whnf) | (refine AB.ofT (by assumption) ?_; conv => whnf) | (refine AB.ofF (by assumption) ?_; conv => whnf) | (refine AB.ofF (by decide) ?_; conv => whnf) | (exact trivial) | (refine And.intro rfl ?_; conv => whnf) | (refine AB.mk (fun h => ?_) (fun h => ?_) <;> (conv => whnf)) | (with_reducible_and_instances rfl) | (exact (rfl : AP.tup _ = AP.tup _)))
  · have hst : ((⟨w.toArray⟩ : ByteArray).toList == (⟨#[]⟩ : ByteArray).toList) = false := by
      have := str_dec w []
      rw [decide_eq_false hnil] at this
      exact this
    rw [if_neg hnil]
    refine mcall_of av_ok Tryd.func148 rfl Tryd.call148 Tryd.ntmps148 (congrArg Array.toList Tryd.results148) rfl fun S pv => ?_; conv => whnf
    repeat' (first | (refine AWP.seq ?_) | (refine AWP.region av_ok ?_; conv => whnf) | (refine AWP.ret ?_; conv => whnf) | (refine AWP.skip ?_; conv => whnf) | (refine AWP.exit ?_; conv => whnf) | (refine AWP.block ?_; conv => whnf) | (refine AWP.cond ?_; conv => whnf) | (refine AB.tt ?_; conv => whnf) | (refine AB.ff ?_; conv => whnf) | (refine AB.ofT (by assumption) ?_; conv => whnf) | (refine AB.ofF (by assumption) ?_; conv => whnf) | (refine ACall.upd wm 1000 rfl rfl rfl ?_; conv => whnf) | (exact trivial) | (refine And.intro rfl ?_; conv => whnf) | (refine AB.mk (fun h => ?_) (fun h => ?_) <;> (conv => whnf)) | (with_reducible_and_instances rfl) | (exact (rfl : AP.tup _ = AP.tup _)))
    refine AWP.loopS (fun k : Nat => k ≤ w.length ∧ k ≤ 121) (12 :: [4, 5, 18, 19, 20, 21, 22, 23, 24, 25, 26, 27, 28, 29, 30, 31, 32, 33, 34, 35]) (fun k => [(4, .one (.own 12)), (5, vI .i64 (k : Int))]) (fun k => [(9999, .frame (pinsOf [1000]) pv), (1000, (⟨ws1, b1, a1⟩ : Sc).o), (12, .row 2 1 (((w.take k).map fun b => (b.toNat : Int) - 48).map eI))]) (fun k => w.length - k) 0 ⟨by omega, by omega⟩ ?_ (SubO.cons rfl (SubO.cons rfl (SubO.cons rfl SubO.nil))) (fun k hR => ?_) <;> (conv => whnf)
    · repeat' (first | exact trivial | (refine And.intro rfl ?_; conv => whnf))
    · obtain ⟨hk, hk1⟩ := hR
      repeat' (first | (refine AWP.seq ?_) | (refine AWP.region av_ok ?_; conv => whnf) | (refine AWP.ret ?_; conv => whnf) | (refine AWP.skip ?_; conv => whnf) | (refine AWP.exit ?_; conv => whnf) | (refine AWP.block ?_; conv => whnf) | (refine AWP.cond ?_; conv => whnf) | (refine AB.tt ?_; conv => whnf) | (refine AB.ff ?_; conv => whnf) | (refine AB.ofT (by assumption) ?_; conv => whnf) | (refine AB.ofF (by assumption) ?_; conv => whnf) | (have hlt : k < w.length := (by simp only [sz_dL, decide_eq_true_eq, decide_eq_false_iff_not, beq_iff_eq, beq_eq_false_iff_ne, List.length_map, Bool.not_eq_true', Bool.not_eq_false', ne_eq] at *; omega); have hb : w[k].toNat ≤ 255 := (by have := w[k].toNat_lt; omega); refine ⟨k, w[k]'hlt, rfl, sget hlt, ?_⟩; conv => whnf) | (refine AW.i64 (by simp only [sz_dL, decide_eq_true_eq, decide_eq_false_iff_not, beq_iff_eq, beq_eq_false_iff_ne, List.length_map, Bool.not_eq_true', Bool.not_eq_false', ne_eq] at *; omega) (by simp only [sz_dL, decide_eq_true_eq, decide_eq_false_iff_not, beq_iff_eq, beq_eq_false_iff_ne, List.length_map, Bool.not_eq_true', Bool.not_eq_false', ne_eq] at *; omega) ?_; conv => whnf) | (refine all_len (by simp [eI]) ?_; conv => whnf) | (refine sz_app (by simp only [List.length_map, List.length_take, List.length_cons, List.length_nil]; omega) ?_; conv => whnf) | (exact trivial) | (refine And.intro rfl ?_; conv => whnf) | (refine AB.mk (fun h => ?_) (fun h => ?_) <;> (conv => whnf)) | (with_reducible_and_instances rfl) | (exact (rfl : AP.tup _ = AP.tup _)))
      · have hk2 : k ≤ 120 := (by simp only [decide_eq_true_eq, decide_eq_false_iff_not, List.length_map, Bool.not_eq_true', Bool.not_eq_false'] at *; omega)
        have hrow : ((w.take k).map fun b => (b.toNat : Int) - 48).map eI ++ [[dI ((w[k].toNat : Int) - 48)]] = ((w.take (k + 1)).map fun b => (b.toNat : Int) - 48).map eI := by
          rw [← List.take_append_getElem hlt, List.map_append, List.map_append]; rfl
        refine ANext.mk ⟨k + 1, ⟨hlt, by omega⟩, by omega, ?_, SubO.cons rfl (SubO.cons rfl (SubO.cons (congrArg some (congrArg (AO.row 2 1) hrow)) SubO.nil))⟩
        (conv => whnf); repeat' (first | exact trivial | (refine ⟨rfl, ?_⟩; conv => whnf))
      · have e2 := fin k hk hk1 (by simp only [sz_dL, decide_eq_true_eq, decide_eq_false_iff_not] at *; omega)
        rw [e2]
        repeat' (first | (refine AWP.seq ?_) | (refine AWP.region av_ok ?_; conv => whnf) | (refine AWP.ret ?_; conv => whnf) | (refine AWP.skip ?_; conv => whnf) | (refine AWP.exit ?_; conv => whnf) | (refine AWP.block ?_; conv => whnf) | (refine AWP.cond ?_; conv => whnf) | (refine AB.tt ?_; conv => whnf) | (refine AB.ff ?_; conv => whnf) | (exact trivial) | (refine And.intro rfl ?_; conv => whnf) | (refine AB.mk (fun h => ?_) (fun h => ?_) <;> (conv => whnf)) | (with_reducible_and_instances rfl) | (exact (rfl : AP.tup _ = AP.tup _)))
      · have e2 := fin k hk hk1 (by simp only [sz_dL, decide_eq_true_eq, decide_eq_false_iff_not] at *; omega)
        rw [e2]
        repeat' (first | (refine AWP.seq ?_) | (refine AWP.region av_ok ?_; conv => whnf) | (refine AWP.ret ?_; conv => whnf) | (refine AWP.skip ?_; conv => whnf) | (refine AWP.exit ?_; conv => whnf) | (refine AWP.block ?_; conv => whnf) | (refine AWP.cond ?_; conv => whnf) | (refine AB.tt ?_; conv => whnf) | (refine AB.ff ?_; conv => whnf) | (exact trivial) | (refine And.intro rfl ?_; conv => whnf) | (refine AB.mk (fun h => ?_) (fun h => ?_) <;> (conv => whnf)) | (with_reducible_and_instances rfl) | (exact (rfl : AP.tup _ = AP.tup _)))
end Go.Proofs.YtlhanpkfnhnegaaDoor
/- The scanner's method step. -/
namespace Go.Proofs.YtlhanpkfnhnegaaDoor
open Go.RowKit

theorem idxL_get {l : List (List UInt8)} {x : List UInt8} : ∀ {k : Int}, idxL l x = k → 0 ≤ k → l[k.toNat]? = some x := by
  induction l with
  | nil => intro k h h0; unfold idxL at h; omega
  | cons y r ih =>
    intro k h h0
    unfold idxL at h
    split at h
    · rename_i e; subst h; simp [e]
    · split at h
      · omega
      · have := ih (k := k - 1) (by omega) (by have := idxL_ge r x; omega)
        have e : k.toNat = (k - 1).toNat + 1 := by have := idxL_ge r x; omega
        rw [e, List.getElem?_cons_succ]; exact this
def stIx (w : List UInt8) : Int := idxL kindsL w
theorem idxL_le (l : List (List UInt8)) (x : List UInt8) : idxL l x < l.length := by
  induction l with
  | nil => show (-1 : Int) < 0; omega
  | cons y r ih => unfold idxL; rw [List.length_cons]; split; omega; split <;> omega
theorem stIx_range (w : List UInt8) : -1 ≤ stIx w ∧ stIx w ≤ 11 := by
  have h1 := idxL_ge kindsL w
  have h2 := idxL_le kindsL w
  exact ⟨h1, by have : kindsL.length = 12 := rfl; unfold stIx; omega⟩
theorem stIx_word {w : List UInt8} {k : Int} (h : 1 ≤ k ∧ k ≤ 11) : stIx w = k ↔ kindL k = w := by
  constructor
  · intro e
    have := idxL_get e (by omega)
    unfold kindL
    rw [List.getD_eq_getElem?_getD, this]; rfl
  · rintro rfl
    rcases kind_cases h.1 h.2 with rfl | rfl | rfl | rfl | rfl | rfl | rfl | rfl | rfl | rfl | rfl <;> decide
def implKind (w : List UInt8) : Int := if stIx w < 1 then 0 else stIx w
theorem implKind_range (w : List UInt8) : 0 ≤ implKind w ∧ implKind w ≤ 11 := by
  have := stIx_range w
  unfold implKind
  split <;> omega
theorem implKind_of {w : List UInt8} {k : Nat} (hk : k ≤ 11) (hno : ∀ j : Nat, k < j → j ≤ 11 → kindL j ≠ w) (he : k = 0 ∨ kindL k = w) : implKind w = k := by
  have hr := stIx_range w
  unfold implKind
  by_cases h0 : k = 0
  · subst h0
    rw [if_pos]
    · rfl
    · refine Classical.byContradiction fun h => ?_
      exact hno (stIx w).toNat (by omega) (by omega) (by rw [Int.toNat_of_nonneg (by omega)]; exact (stIx_word (by omega)).1 rfl)
  · have h1 : kindL k = w := by rcases he with h | h; exact absurd h h0; exact h
    have h2 : stIx w = k := (stIx_word (by omega)).2 h1
    rw [h2, if_neg (by omega)]

/-- What a step reads behind its word, by its kind. -/
structure StR where
  a : Int
  b : Int
  c : Int
  s : Sc
noncomputable def rNum (s : Sc) : StR := ⟨(scNum s).1, 0, 0, (scNum s).2⟩
noncomputable def rNode (s : Sc) : StR := ⟨(scNode s).1, 0, 0, (scNode s).2⟩
noncomputable def rNodeNum (s : Sc) : StR := ⟨(scNode s).1, (scNum (scNode s).2).1, 0, (scNum (scNode s).2).2⟩
noncomputable def rNodeNode (s : Sc) : StR := ⟨(scNode s).1, (scNode (scNode s).2).1, 0, (scNode (scNode s).2).2⟩
noncomputable def rNum3 (s : Sc) : StR := ⟨(scNum s).1, (scNum (scNum s).2).1, (scNum (scNum (scNum s).2).2).1, (scNum (scNum (scNum s).2).2).2⟩
noncomputable def stRead (k : Int) (s : Sc) : StR :=
  if k = 1 ∨ k = 7 ∨ k = 8 then rNum s else if k = 2 ∨ k = 6 then rNode s else if k = 3 ∨ k = 4 then rNodeNum s else if k = 9 ∨ k = 10 then rNodeNode s else if k = 11 then rNum3 s else ⟨0, 0, 0, s⟩
theorem step_m0 (s : Sc) (hs : s.ok) (hkd : implKind s.cur = 0) : MCall av 109 [.one (.ref 1000 0 0 0)] [(1000, s.o)] [(1000, (stRead 0 s.next).s.o)] [1000] (.val (.agg [.d (dI 0), .d (dI (stRead 0 s.next).a), .d (dI (stRead 0 s.next).b), .d (dI (stRead 0 s.next).c), .nil])) := by
  have wm := word_m s hs
  have h0 := hs.next
  have h1 := h0.num
  have h2 := h1.num
  have g1 := h0.node
  refine mcall_of av_ok Tryd.func109 rfl Tryd.call109 Tryd.ntmps109 (congrArg Array.toList Tryd.results109) rfl fun S pv => ?_; conv => whnf
  repeat' (first | (refine AWP.seq ?_) | (refine AWP.region av_ok ?_; conv => whnf) | (refine AWP.ret ?_; conv => whnf) | (refine AWP.skip ?_; conv => whnf) | (refine AWP.exit ?_; conv => whnf) | (refine AWP.block ?_; conv => whnf) | (refine AWP.cond ?_; conv => whnf) | (refine AB.tt ?_; conv => whnf) | (refine AB.ff ?_; conv => whnf) | (refine AB.ofT (by assumption) ?_; conv => whnf) | (refine AB.ofF (by assumption) ?_; conv => whnf) | (refine ACall.upd wm 1000 rfl rfl rfl ?_; conv => whnf) | (exact trivial) | (refine And.intro rfl ?_; conv => whnf) | (refine AB.mk (fun h => ?_) (fun h => ?_) <;> (conv => whnf)) | (with_reducible_and_instances rfl) | (exact (rfl : AP.tup _ = AP.tup _)))
  refine AWP.loopS (fun k : Nat => k ≤ 11 ∧ ∀ j : Nat, k < j → j ≤ 11 → kindL j ≠ s.cur) [8, 9, 10, 11, 12, 13, 14, 15, 16, 17, 18, 19, 20, 21] (fun k => []) (fun k => [(9999, .frame (pinsOf [1000]) pv), (1000, s.next.o), (2, .cells 47 [.d (dI 0), .d (dI 0), .d (dI 0), .d (dI 0), .nil]), (4, .cells 47 [.d (dI (k : Int)), .d (dI 0), .d (dI 0), .d (dI 0), .nil])]) (fun k => k) 11 ⟨by omega, fun j h1 h2 => by omega⟩ ?_ (SubO.cons rfl (SubO.cons rfl (SubO.cons rfl (SubO.cons rfl SubO.nil)))) (fun k hR => ?_) <;> (conv => whnf)
  · repeat' (first | exact trivial | (refine And.intro rfl ?_; conv => whnf))
  · obtain ⟨hk, hno⟩ := hR
    repeat' (first | (refine AWP.seq ?_) | (refine AWP.region av_ok ?_; conv => whnf) | (refine AWP.ret ?_; conv => whnf) | (refine AWP.skip ?_; conv => whnf) | (refine AWP.exit ?_; conv => whnf) | (refine AWP.block ?_; conv => whnf) | (refine AWP.cond ?_; conv => whnf) | (refine AB.tt ?_; conv => whnf) | (refine AB.ff ?_; conv => whnf) | (refine AB.ofT (by assumption) ?_; conv => whnf) | (refine AB.ofF (by assumption) ?_; conv => whnf) | (refine And.intro rfl ?_; conv => whnf))
    refine AB.mk (fun h => ?_) (fun h => ?_) <;> (conv => whnf)
    · repeat' (first | (refine AWP.seq ?_) | (refine AWP.region av_ok ?_; conv => whnf) | (refine AWP.ret ?_; conv => whnf) | (refine AWP.skip ?_; conv => whnf) | (refine AWP.exit ?_; conv => whnf) | (refine AWP.block ?_; conv => whnf) | (refine AWP.cond ?_; conv => whnf) | (refine AB.tt ?_; conv => whnf) | (refine AB.ff ?_; conv => whnf) | (refine AB.ofT (by assumption) ?_; conv => whnf) | (refine AB.ofF (by assumption) ?_; conv => whnf) | (refine ACall.pure (istepWord_p (k : Int) (by simp only [decide_eq_true_eq, decide_eq_false_iff_not, List.length_map, Bool.not_eq_true', Bool.not_eq_false'] at *; omega) (by simp only [decide_eq_true_eq, decide_eq_false_iff_not, List.length_map, Bool.not_eq_true', Bool.not_eq_false'] at *; omega)) rfl ?_; conv => whnf) | (refine And.intro rfl ?_; conv => whnf))
      refine AB.mk (fun h2 => ?_) (fun h2 => ?_) <;> (conv => whnf)
      · have hk1 : 1 ≤ k := (by simp only [decide_eq_true_eq, decide_eq_false_iff_not, List.length_map, Bool.not_eq_true', Bool.not_eq_false'] at *; omega)
        have hne : kindL k ≠ s.cur := by rw [str_dec] at h2; simpa using h2
        repeat' (first | (refine AWP.seq ?_) | (refine AWP.region av_ok ?_; conv => whnf) | (refine AWP.ret ?_; conv => whnf) | (refine AWP.skip ?_; conv => whnf) | (refine AWP.exit ?_; conv => whnf) | (refine AWP.block ?_; conv => whnf) | (refine AWP.cond ?_; conv => whnf) | (refine AB.tt ?_; conv => whnf) | (refine AB.ff ?_; conv => whnf) | (refine AB.ofT (by assumption) ?_; conv => whnf) | (refine AB.ofF (by assumption) ?_; conv => whnf) | (refine AW.as ((k - 1 : Nat) : Int) (by rw [wrap_i64_of (by omega) (by omega)]; omega) ?_; conv => whnf) | (refine And.intro rfl ?_; conv => whnf))
        refine ANext.mk ⟨k - 1, ⟨by omega, fun j h1 h2 => ?_⟩, by omega, ?_, SubO.cons rfl (SubO.cons rfl (SubO.cons rfl (SubO.cons rfl SubO.nil)))⟩
        · by_cases hjk : j = k
          · subst hjk; exact hne
          · exact hno j (by omega) h2
        · (conv => whnf); repeat' (first | exact trivial | (refine ⟨rfl, ?_⟩; conv => whnf))
      · have heq : kindL k = s.cur := by rw [str_dec] at h2; simpa using h2
        have hkk : k = 0 := by have := implKind_of hk hno (.inr heq); omega
        subst hkk
        clear h h2 hno
        repeat' (first | (refine AWP.seq ?_) | (refine AWP.region av_ok ?_; conv => whnf) | (refine AWP.ret ?_; conv => whnf) | (refine AWP.skip ?_; conv => whnf) | (refine AWP.exit ?_; conv => whnf) | (refine AWP.block ?_; conv => whnf) | (refine AWP.cond ?_; conv => whnf) | (refine AB.tt ?_; conv => whnf) | (refine AB.ff ?_; conv => whnf) | (refine AB.ofT (by assumption) ?_; conv => whnf) | (refine AB.ofF (by assumption) ?_; conv => whnf) | (refine AB.ofT (by decide) ?_; conv => whnf) | (refine AB.ofF (by decide) ?_; conv => whnf) | (refine ACall.upd (number_m _ h0) 1000 rfl rfl rfl ?_; conv => whnf) | (refine ACall.upd (number_m _ h1) 1000 rfl rfl rfl ?_; conv => whnf) | (refine ACall.upd (number_m _ h2) 1000 rfl rfl rfl ?_; conv => whnf) | (refine ACall.upd (node_m _ h0) 1000 rfl rfl rfl ?_; conv => whnf) | (refine ACall.upd (number_m _ g1) 1000 rfl rfl rfl ?_; conv => whnf) | (refine ACall.upd (node_m _ g1) 1000 rfl rfl rfl ?_; conv => whnf) | (exact trivial) | (refine And.intro rfl ?_; conv => whnf))
    · have hkk : k = 0 := by have := implKind_of hk hno (.inl (by simp only [decide_eq_true_eq, decide_eq_false_iff_not, List.length_map, Bool.not_eq_true', Bool.not_eq_false'] at *; omega)); omega
      subst hkk
      clear hno
      repeat' (first | (refine AWP.seq ?_) | (refine AWP.region av_ok ?_; conv => whnf) | (refine AWP.ret ?_; conv => whnf) | (refine AWP.skip ?_; conv => whnf) | (refine AWP.exit ?_; conv => whnf) | (refine AWP.block ?_; conv => whnf) | (refine AWP.cond ?_; conv => whnf) | (refine AB.tt ?_; conv => whnf) | (refine AB.ff ?_; conv => whnf) | (refine AB.ofT (by assumption) ?_; conv => whnf) | (refine AB.ofF (by assumption) ?_; conv => whnf) | (refine AB.ofT (by decide) ?_; conv => whnf) | (refine AB.ofF (by decide) ?_; conv => whnf) | (refine ACall.upd (number_m _ h0) 1000 rfl rfl rfl ?_; conv => whnf) | (refine ACall.upd (number_m _ h1) 1000 rfl rfl rfl ?_; conv => whnf) | (refine ACall.upd (number_m _ h2) 1000 rfl rfl rfl ?_; conv => whnf) | (refine ACall.upd (node_m _ h0) 1000 rfl rfl rfl ?_; conv => whnf) | (refine ACall.upd (number_m _ g1) 1000 rfl rfl rfl ?_; conv => whnf) | (refine ACall.upd (node_m _ g1) 1000 rfl rfl rfl ?_; conv => whnf) | (exact trivial) | (refine And.intro rfl ?_; conv => whnf))
theorem step_m1 (s : Sc) (hs : s.ok) (hkd : implKind s.cur = 1) : MCall av 109 [.one (.ref 1000 0 0 0)] [(1000, s.o)] [(1000, (stRead 1 s.next).s.o)] [1000] (.val (.agg [.d (dI 1), .d (dI (stRead 1 s.next).a), .d (dI (stRead 1 s.next).b), .d (dI (stRead 1 s.next).c), .nil])) := by
  have wm := word_m s hs
  have h0 := hs.next
  have h1 := h0.num
  have h2 := h1.num
  have g1 := h0.node
  refine mcall_of av_ok Tryd.func109 rfl Tryd.call109 Tryd.ntmps109 (congrArg Array.toList Tryd.results109) rfl fun S pv => ?_; conv => whnf
  repeat' (first | (refine AWP.seq ?_) | (refine AWP.region av_ok ?_; conv => whnf) | (refine AWP.ret ?_; conv => whnf) | (refine AWP.skip ?_; conv => whnf) | (refine AWP.exit ?_; conv => whnf) | (refine AWP.block ?_; conv => whnf) | (refine AWP.cond ?_; conv => whnf) | (refine AB.tt ?_; conv => whnf) | (refine AB.ff ?_; conv => whnf) | (refine AB.ofT (by assumption) ?_; conv => whnf) | (refine AB.ofF (by assumption) ?_; conv => whnf) | (refine ACall.upd wm 1000 rfl rfl rfl ?_; conv => whnf) | (exact trivial) | (refine And.intro rfl ?_; conv => whnf) | (refine AB.mk (fun h => ?_) (fun h => ?_) <;> (conv => whnf)) | (with_reducible_and_instances rfl) | (exact (rfl : AP.tup _ = AP.tup _)))
  refine AWP.loopS (fun k : Nat => k ≤ 11 ∧ ∀ j : Nat, k < j → j ≤ 11 → kindL j ≠ s.cur) [8, 9, 10, 11, 12, 13, 14, 15, 16, 17, 18, 19, 20, 21] (fun k => []) (fun k => [(9999, .frame (pinsOf [1000]) pv), (1000, s.next.o), (2, .cells 47 [.d (dI 0), .d (dI 0), .d (dI 0), .d (dI 0), .nil]), (4, .cells 47 [.d (dI (k : Int)), .d (dI 0), .d (dI 0), .d (dI 0), .nil])]) (fun k => k) 11 ⟨by omega, fun j h1 h2 => by omega⟩ ?_ (SubO.cons rfl (SubO.cons rfl (SubO.cons rfl (SubO.cons rfl SubO.nil)))) (fun k hR => ?_) <;> (conv => whnf)
  · repeat' (first | exact trivial | (refine And.intro rfl ?_; conv => whnf))
  · obtain ⟨hk, hno⟩ := hR
    repeat' (first | (refine AWP.seq ?_) | (refine AWP.region av_ok ?_; conv => whnf) | (refine AWP.ret ?_; conv => whnf) | (refine AWP.skip ?_; conv => whnf) | (refine AWP.exit ?_; conv => whnf) | (refine AWP.block ?_; conv => whnf) | (refine AWP.cond ?_; conv => whnf) | (refine AB.tt ?_; conv => whnf) | (refine AB.ff ?_; conv => whnf) | (refine AB.ofT (by assumption) ?_; conv => whnf) | (refine AB.ofF (by assumption) ?_; conv => whnf) | (refine And.intro rfl ?_; conv => whnf))
    refine AB.mk (fun h => ?_) (fun h => ?_) <;> (conv => whnf)
    · repeat' (first | (refine AWP.seq ?_) | (refine AWP.region av_ok ?_; conv => whnf) | (refine AWP.ret ?_; conv => whnf) | (refine AWP.skip ?_; conv => whnf) | (refine AWP.exit ?_; conv => whnf) | (refine AWP.block ?_; conv => whnf) | (refine AWP.cond ?_; conv => whnf) | (refine AB.tt ?_; conv => whnf) | (refine AB.ff ?_; conv => whnf) | (refine AB.ofT (by assumption) ?_; conv => whnf) | (refine AB.ofF (by assumption) ?_; conv => whnf) | (refine ACall.pure (istepWord_p (k : Int) (by simp only [decide_eq_true_eq, decide_eq_false_iff_not, List.length_map, Bool.not_eq_true', Bool.not_eq_false'] at *; omega) (by simp only [decide_eq_true_eq, decide_eq_false_iff_not, List.length_map, Bool.not_eq_true', Bool.not_eq_false'] at *; omega)) rfl ?_; conv => whnf) | (refine And.intro rfl ?_; conv => whnf))
      refine AB.mk (fun h2 => ?_) (fun h2 => ?_) <;> (conv => whnf)
      · have hk1 : 1 ≤ k := (by simp only [decide_eq_true_eq, decide_eq_false_iff_not, List.length_map, Bool.not_eq_true', Bool.not_eq_false'] at *; omega)
        have hne : kindL k ≠ s.cur := by rw [str_dec] at h2; simpa using h2
        repeat' (first | (refine AWP.seq ?_) | (refine AWP.region av_ok ?_; conv => whnf) | (refine AWP.ret ?_; conv => whnf) | (refine AWP.skip ?_; conv => whnf) | (refine AWP.exit ?_; conv => whnf) | (refine AWP.block ?_; conv => whnf) | (refine AWP.cond ?_; conv => whnf) | (refine AB.tt ?_; conv => whnf) | (refine AB.ff ?_; conv => whnf) | (refine AB.ofT (by assumption) ?_; conv => whnf) | (refine AB.ofF (by assumption) ?_; conv => whnf) | (refine AW.as ((k - 1 : Nat) : Int) (by rw [wrap_i64_of (by omega) (by omega)]; omega) ?_; conv => whnf) | (refine And.intro rfl ?_; conv => whnf))
        refine ANext.mk ⟨k - 1, ⟨by omega, fun j h1 h2 => ?_⟩, by omega, ?_, SubO.cons rfl (SubO.cons rfl (SubO.cons rfl (SubO.cons rfl SubO.nil)))⟩
        · by_cases hjk : j = k
          · subst hjk; exact hne
          · exact hno j (by omega) h2
        · (conv => whnf); repeat' (first | exact trivial | (refine ⟨rfl, ?_⟩; conv => whnf))
      · have heq : kindL k = s.cur := by rw [str_dec] at h2; simpa using h2
        have hkk : k = 1 := by have := implKind_of hk hno (.inr heq); omega
        subst hkk
        clear h h2 hno
        repeat' (first | (refine AWP.seq ?_) | (refine AWP.region av_ok ?_; conv => whnf) | (refine AWP.ret ?_; conv => whnf) | (refine AWP.skip ?_; conv => whnf) | (refine AWP.exit ?_; conv => whnf) | (refine AWP.block ?_; conv => whnf) | (refine AWP.cond ?_; conv => whnf) | (refine AB.tt ?_; conv => whnf) | (refine AB.ff ?_; conv => whnf) | (refine AB.ofT (by assumption) ?_; conv => whnf) | (refine AB.ofF (by assumption) ?_; conv => whnf) | (refine AB.ofT (by decide) ?_; conv => whnf) | (refine AB.ofF (by decide) ?_; conv => whnf) | (refine ACall.upd (number_m _ h0) 1000 rfl rfl rfl ?_; conv => whnf) | (refine ACall.upd (number_m _ h1) 1000 rfl rfl rfl ?_; conv => whnf) | (refine ACall.upd (number_m _ h2) 1000 rfl rfl rfl ?_; conv => whnf) | (refine ACall.upd (node_m _ h0) 1000 rfl rfl rfl ?_; conv => whnf) | (refine ACall.upd (number_m _ g1) 1000 rfl rfl rfl ?_; conv => whnf) | (refine ACall.upd (node_m _ g1) 1000 rfl rfl rfl ?_; conv => whnf) | (exact trivial) | (refine And.intro rfl ?_; conv => whnf))
    · have hkk : k = 1 := by have := implKind_of hk hno (.inl (by simp only [decide_eq_true_eq, decide_eq_false_iff_not, List.length_map, Bool.not_eq_true', Bool.not_eq_false'] at *; omega)); omega
      subst hkk
      clear hno
      repeat' (first | (refine AWP.seq ?_) | (refine AWP.region av_ok ?_; conv => whnf) | (refine AWP.ret ?_; conv => whnf) | (refine AWP.skip ?_; conv => whnf) | (refine AWP.exit ?_; conv => whnf) | (refine AWP.block ?_; conv => whnf) | (refine AWP.cond ?_; conv => whnf) | (refine AB.tt ?_; conv => whnf) | (refine AB.ff ?_; conv => whnf) | (refine AB.ofT (by assumption) ?_; conv => whnf) | (refine AB.ofF (by assumption) ?_; conv => whnf) | (refine AB.ofT (by decide) ?_; conv => whnf) | (refine AB.ofF (by decide) ?_; conv => whnf) | (refine ACall.upd (number_m _ h0) 1000 rfl rfl rfl ?_; conv => whnf) | (refine ACall.upd (number_m _ h1) 1000 rfl rfl rfl ?_; conv => whnf) | (refine ACall.upd (number_m _ h2) 1000 rfl rfl rfl ?_; conv => whnf) | (refine ACall.upd (node_m _ h0) 1000 rfl rfl rfl ?_; conv => whnf) | (refine ACall.upd (number_m _ g1) 1000 rfl rfl rfl ?_; conv => whnf) | (refine ACall.upd (node_m _ g1) 1000 rfl rfl rfl ?_; conv => whnf) | (exact trivial) | (refine And.intro rfl ?_; conv => whnf))
theorem step_m2 (s : Sc) (hs : s.ok) (hkd : implKind s.cur = 2) : MCall av 109 [.one (.ref 1000 0 0 0)] [(1000, s.o)] [(1000, (stRead 2 s.next).s.o)] [1000] (.val (.agg [.d (dI 2), .d (dI (stRead 2 s.next).a), .d (dI (stRead 2 s.next).b), .d (dI (stRead 2 s.next).c), .nil])) := by
  have wm := word_m s hs
  have h0 := hs.next
  have h1 := h0.num
  have h2 := h1.num
  have g1 := h0.node
  refine mcall_of av_ok Tryd.func109 rfl Tryd.call109 Tryd.ntmps109 (congrArg Array.toList Tryd.results109) rfl fun S pv => ?_; conv => whnf
  repeat' (first | (refine AWP.seq ?_) | (refine AWP.region av_ok ?_; conv => whnf) | (refine AWP.ret ?_; conv => whnf) | (refine AWP.skip ?_; conv => whnf) | (refine AWP.exit ?_; conv => whnf) | (refine AWP.block ?_; conv => whnf) | (refine AWP.cond ?_; conv => whnf) | (refine AB.tt ?_; conv => whnf) | (refine AB.ff ?_; conv => whnf) | (refine AB.ofT (by assumption) ?_; conv => whnf) | (refine AB.ofF (by assumption) ?_; conv => whnf) | (refine ACall.upd wm 1000 rfl rfl rfl ?_; conv => whnf) | (exact trivial) | (refine And.intro rfl ?_; conv => whnf) | (refine AB.mk (fun h => ?_) (fun h => ?_) <;> (conv => whnf)) | (with_reducible_and_instances rfl) | (exact (rfl : AP.tup _ = AP.tup _)))
  refine AWP.loopS (fun k : Nat => k ≤ 11 ∧ ∀ j : Nat, k < j → j ≤ 11 → kindL j ≠ s.cur) [8, 9, 10, 11, 12, 13, 14, 15, 16, 17, 18, 19, 20, 21] (fun k => []) (fun k => [(9999, .frame (pinsOf [1000]) pv), (1000, s.next.o), (2, .cells 47 [.d (dI 0), .d (dI 0), .d (dI 0), .d (dI 0), .nil]), (4, .cells 47 [.d (dI (k : Int)), .d (dI 0), .d (dI 0), .d (dI 0), .nil])]) (fun k => k) 11 ⟨by omega, fun j h1 h2 => by omega⟩ ?_ (SubO.cons rfl (SubO.cons rfl (SubO.cons rfl (SubO.cons rfl SubO.nil)))) (fun k hR => ?_) <;> (conv => whnf)
  · repeat' (first | exact trivial | (refine And.intro rfl ?_; conv => whnf))
  · obtain ⟨hk, hno⟩ := hR
    repeat' (first | (refine AWP.seq ?_) | (refine AWP.region av_ok ?_; conv => whnf) | (refine AWP.ret ?_; conv => whnf) | (refine AWP.skip ?_; conv => whnf) | (refine AWP.exit ?_; conv => whnf) | (refine AWP.block ?_; conv => whnf) | (refine AWP.cond ?_; conv => whnf) | (refine AB.tt ?_; conv => whnf) | (refine AB.ff ?_; conv => whnf) | (refine AB.ofT (by assumption) ?_; conv => whnf) | (refine AB.ofF (by assumption) ?_; conv => whnf) | (refine And.intro rfl ?_; conv => whnf))
    refine AB.mk (fun h => ?_) (fun h => ?_) <;> (conv => whnf)
    · repeat' (first | (refine AWP.seq ?_) | (refine AWP.region av_ok ?_; conv => whnf) | (refine AWP.ret ?_; conv => whnf) | (refine AWP.skip ?_; conv => whnf) | (refine AWP.exit ?_; conv => whnf) | (refine AWP.block ?_; conv => whnf) | (refine AWP.cond ?_; conv => whnf) | (refine AB.tt ?_; conv => whnf) | (refine AB.ff ?_; conv => whnf) | (refine AB.ofT (by assumption) ?_; conv => whnf) | (refine AB.ofF (by assumption) ?_; conv => whnf) | (refine ACall.pure (istepWord_p (k : Int) (by simp only [decide_eq_true_eq, decide_eq_false_iff_not, List.length_map, Bool.not_eq_true', Bool.not_eq_false'] at *; omega) (by simp only [decide_eq_true_eq, decide_eq_false_iff_not, List.length_map, Bool.not_eq_true', Bool.not_eq_false'] at *; omega)) rfl ?_; conv => whnf) | (refine And.intro rfl ?_; conv => whnf))
      refine AB.mk (fun h2 => ?_) (fun h2 => ?_) <;> (conv => whnf)
      · have hk1 : 1 ≤ k := (by simp only [decide_eq_true_eq, decide_eq_false_iff_not, List.length_map, Bool.not_eq_true', Bool.not_eq_false'] at *; omega)
        have hne : kindL k ≠ s.cur := by rw [str_dec] at h2; simpa using h2
        repeat' (first | (refine AWP.seq ?_) | (refine AWP.region av_ok ?_; conv => whnf) | (refine AWP.ret ?_; conv => whnf) | (refine AWP.skip ?_; conv => whnf) | (refine AWP.exit ?_; conv => whnf) | (refine AWP.block ?_; conv => whnf) | (refine AWP.cond ?_; conv => whnf) | (refine AB.tt ?_; conv => whnf) | (refine AB.ff ?_; conv => whnf) | (refine AB.ofT (by assumption) ?_; conv => whnf) | (refine AB.ofF (by assumption) ?_; conv => whnf) | (refine AW.as ((k - 1 : Nat) : Int) (by rw [wrap_i64_of (by omega) (by omega)]; omega) ?_; conv => whnf) | (refine And.intro rfl ?_; conv => whnf))
        refine ANext.mk ⟨k - 1, ⟨by omega, fun j h1 h2 => ?_⟩, by omega, ?_, SubO.cons rfl (SubO.cons rfl (SubO.cons rfl (SubO.cons rfl SubO.nil)))⟩
        · by_cases hjk : j = k
          · subst hjk; exact hne
          · exact hno j (by omega) h2
        · (conv => whnf); repeat' (first | exact trivial | (refine ⟨rfl, ?_⟩; conv => whnf))
      · have heq : kindL k = s.cur := by rw [str_dec] at h2; simpa using h2
        have hkk : k = 2 := by have := implKind_of hk hno (.inr heq); omega
        subst hkk
        clear h h2 hno
        repeat' (first | (refine AWP.seq ?_) | (refine AWP.region av_ok ?_; conv => whnf) | (refine AWP.ret ?_; conv => whnf) | (refine AWP.skip ?_; conv => whnf) | (refine AWP.exit ?_; conv => whnf) | (refine AWP.block ?_; conv => whnf) | (refine AWP.cond ?_; conv => whnf) | (refine AB.tt ?_; conv => whnf) | (refine AB.ff ?_; conv => whnf) | (refine AB.ofT (by assumption) ?_; conv => whnf) | (refine AB.ofF (by assumption) ?_; conv => whnf) | (refine AB.ofT (by decide) ?_; conv => whnf) | (refine AB.ofF (by decide) ?_; conv => whnf) | (refine ACall.upd (number_m _ h0) 1000 rfl rfl rfl ?_; conv => whnf) | (refine ACall.upd (number_m _ h1) 1000 rfl rfl rfl ?_; conv => whnf) | (refine ACall.upd (number_m _ h2) 1000 rfl rfl rfl ?_; conv => whnf) | (refine ACall.upd (node_m _ h0) 1000 rfl rfl rfl ?_; conv => whnf) | (refine ACall.upd (number_m _ g1) 1000 rfl rfl rfl ?_; conv => whnf) | (refine ACall.upd (node_m _ g1) 1000 rfl rfl rfl ?_; conv => whnf) | (exact trivial) | (refine And.intro rfl ?_; conv => whnf))
    · have hkk : k = 2 := by have := implKind_of hk hno (.inl (by simp only [decide_eq_true_eq, decide_eq_false_iff_not, List.length_map, Bool.not_eq_true', Bool.not_eq_false'] at *; omega)); omega
      subst hkk
      clear hno
      repeat' (first | (refine AWP.seq ?_) | (refine AWP.region av_ok ?_; conv => whnf) | (refine AWP.ret ?_; conv => whnf) | (refine AWP.skip ?_; conv => whnf) | (refine AWP.exit ?_; conv => whnf) | (refine AWP.block ?_; conv => whnf) | (refine AWP.cond ?_; conv => whnf) | (refine AB.tt ?_; conv => whnf) | (refine AB.ff ?_; conv => whnf) | (refine AB.ofT (by assumption) ?_; conv => whnf) | (refine AB.ofF (by assumption) ?_; conv => whnf) | (refine AB.ofT (by decide) ?_; conv => whnf) | (refine AB.ofF (by decide) ?_; conv => whnf) | (refine ACall.upd (number_m _ h0) 1000 rfl rfl rfl ?_; conv => whnf) | (refine ACall.upd (number_m _ h1) 1000 rfl rfl rfl ?_; conv => whnf) | (refine ACall.upd (number_m _ h2) 1000 rfl rfl rfl ?_; conv => whnf) | (refine ACall.upd (node_m _ h0) 1000 rfl rfl rfl ?_; conv => whnf) | (refine ACall.upd (number_m _ g1) 1000 rfl rfl rfl ?_; conv => whnf) | (refine ACall.upd (node_m _ g1) 1000 rfl rfl rfl ?_; conv => whnf) | (exact trivial) | (refine And.intro rfl ?_; conv => whnf))
theorem step_m3 (s : Sc) (hs : s.ok) (hkd : implKind s.cur = 3) : MCall av 109 [.one (.ref 1000 0 0 0)] [(1000, s.o)] [(1000, (stRead 3 s.next).s.o)] [1000] (.val (.agg [.d (dI 3), .d (dI (stRead 3 s.next).a), .d (dI (stRead 3 s.next).b), .d (dI (stRead 3 s.next).c), .nil])) := by
  have wm := word_m s hs
  have h0 := hs.next
  have h1 := h0.num
  have h2 := h1.num
  have g1 := h0.node
  refine mcall_of av_ok Tryd.func109 rfl Tryd.call109 Tryd.ntmps109 (congrArg Array.toList Tryd.results109) rfl fun S pv => ?_; conv => whnf
  repeat' (first | (refine AWP.seq ?_) | (refine AWP.region av_ok ?_; conv => whnf) | (refine AWP.ret ?_; conv => whnf) | (refine AWP.skip ?_; conv => whnf) | (refine AWP.exit ?_; conv => whnf) | (refine AWP.block ?_; conv => whnf) | (refine AWP.cond ?_; conv => whnf) | (refine AB.tt ?_; conv => whnf) | (refine AB.ff ?_; conv => whnf) | (refine AB.ofT (by assumption) ?_; conv => whnf) | (refine AB.ofF (by assumption) ?_; conv => whnf) | (refine ACall.upd wm 1000 rfl rfl rfl ?_; conv => whnf) | (exact trivial) | (refine And.intro rfl ?_; conv => whnf) | (refine AB.mk (fun h => ?_) (fun h => ?_) <;> (conv => whnf)) | (with_reducible_and_instances rfl) | (exact (rfl : AP.tup _ = AP.tup _)))
  refine AWP.loopS (fun k : Nat => k ≤ 11 ∧ ∀ j : Nat, k < j → j ≤ 11 → kindL j ≠ s.cur) [8, 9, 10, 11, 12, 13, 14, 15, 16, 17, 18, 19, 20, 21] (fun k => []) (fun k => [(9999, .frame (pinsOf [1000]) pv), (1000, s.next.o), (2, .cells 47 [.d (dI 0), .d (dI 0), .d (dI 0), .d (dI 0), .nil]), (4, .cells 47 [.d (dI (k : Int)), .d (dI 0), .d (dI 0), .d (dI 0), .nil])]) (fun k => k) 11 ⟨by omega, fun j h1 h2 => by omega⟩ ?_ (SubO.cons rfl (SubO.cons rfl (SubO.cons rfl (SubO.cons rfl SubO.nil)))) (fun k hR => ?_) <;> (conv => whnf)
  · repeat' (first | exact trivial | (refine And.intro rfl ?_; conv => whnf))
  · obtain ⟨hk, hno⟩ := hR
    repeat' (first | (refine AWP.seq ?_) | (refine AWP.region av_ok ?_; conv => whnf) | (refine AWP.ret ?_; conv => whnf) | (refine AWP.skip ?_; conv => whnf) | (refine AWP.exit ?_; conv => whnf) | (refine AWP.block ?_; conv => whnf) | (refine AWP.cond ?_; conv => whnf) | (refine AB.tt ?_; conv => whnf) | (refine AB.ff ?_; conv => whnf) | (refine AB.ofT (by assumption) ?_; conv => whnf) | (refine AB.ofF (by assumption) ?_; conv => whnf) | (refine And.intro rfl ?_; conv => whnf))
    refine AB.mk (fun h => ?_) (fun h => ?_) <;> (conv => whnf)
    · repeat' (first | (refine AWP.seq ?_) | (refine AWP.region av_ok ?_; conv => whnf) | (refine AWP.ret ?_; conv => whnf) | (refine AWP.skip ?_; conv => whnf) | (refine AWP.exit ?_; conv => whnf) | (refine AWP.block ?_; conv => whnf) | (refine AWP.cond ?_; conv => whnf) | (refine AB.tt ?_; conv => whnf) | (refine AB.ff ?_; conv => whnf) | (refine AB.ofT (by assumption) ?_; conv => whnf) | (refine AB.ofF (by assumption) ?_; conv => whnf) | (refine ACall.pure (istepWord_p (k : Int) (by simp only [decide_eq_true_eq, decide_eq_false_iff_not, List.length_map, Bool.not_eq_true', Bool.not_eq_false'] at *; omega) (by simp only [decide_eq_true_eq, decide_eq_false_iff_not, List.length_map, Bool.not_eq_true', Bool.not_eq_false'] at *; omega)) rfl ?_; conv => whnf) | (refine And.intro rfl ?_; conv => whnf))
      refine AB.mk (fun h2 => ?_) (fun h2 => ?_) <;> (conv => whnf)
      · have hk1 : 1 ≤ k := (by simp only [decide_eq_true_eq, decide_eq_false_iff_not, List.length_map, Bool.not_eq_true', Bool.not_eq_false'] at *; omega)
        have hne : kindL k ≠ s.cur := by rw [str_dec] at h2; simpa using h2
        repeat' (first | (refine AWP.seq ?_) | (refine AWP.region av_ok ?_; conv => whnf) | (refine AWP.ret ?_; conv => whnf) | (refine AWP.skip ?_; conv => whnf) | (refine AWP.exit ?_; conv => whnf) | (refine AWP.block ?_; conv => whnf) | (refine AWP.cond ?_; conv => whnf) | (refine AB.tt ?_; conv => whnf) | (refine AB.ff ?_; conv => whnf) | (refine AB.ofT (by assumption) ?_; conv => whnf) | (refine AB.ofF (by assumption) ?_; conv => whnf) | (refine AW.as ((k - 1 : Nat) : Int) (by rw [wrap_i64_of (by omega) (by omega)]; omega) ?_; conv => whnf) | (refine And.intro rfl ?_; conv => whnf))
        refine ANext.mk ⟨k - 1, ⟨by omega, fun j h1 h2 => ?_⟩, by omega, ?_, SubO.cons rfl (SubO.cons rfl (SubO.cons rfl (SubO.cons rfl SubO.nil)))⟩
        · by_cases hjk : j = k
          · subst hjk; exact hne
          · exact hno j (by omega) h2
        · (conv => whnf); repeat' (first | exact trivial | (refine ⟨rfl, ?_⟩; conv => whnf))
      · have heq : kindL k = s.cur := by rw [str_dec] at h2; simpa using h2
        have hkk : k = 3 := by have := implKind_of hk hno (.inr heq); omega
        subst hkk
        clear h h2 hno
        repeat' (first | (refine AWP.seq ?_) | (refine AWP.region av_ok ?_; conv => whnf) | (refine AWP.ret ?_; conv => whnf) | (refine AWP.skip ?_; conv => whnf) | (refine AWP.exit ?_; conv => whnf) | (refine AWP.block ?_; conv => whnf) | (refine AWP.cond ?_; conv => whnf) | (refine AB.tt ?_; conv => whnf) | (refine AB.ff ?_; conv => whnf) | (refine AB.ofT (by assumption) ?_; conv => whnf) | (refine AB.ofF (by assumption) ?_; conv => whnf) | (refine AB.ofT (by decide) ?_; conv => whnf) | (refine AB.ofF (by decide) ?_; conv => whnf) | (refine ACall.upd (number_m _ h0) 1000 rfl rfl rfl ?_; conv => whnf) | (refine ACall.upd (number_m _ h1) 1000 rfl rfl rfl ?_; conv => whnf) | (refine ACall.upd (number_m _ h2) 1000 rfl rfl rfl ?_; conv => whnf) | (refine ACall.upd (node_m _ h0) 1000 rfl rfl rfl ?_; conv => whnf) | (refine ACall.upd (number_m _ g1) 1000 rfl rfl rfl ?_; conv => whnf) | (refine ACall.upd (node_m _ g1) 1000 rfl rfl rfl ?_; conv => whnf) | (exact trivial) | (refine And.intro rfl ?_; conv => whnf))
    · have hkk : k = 3 := by have := implKind_of hk hno (.inl (by simp only [decide_eq_true_eq, decide_eq_false_iff_not, List.length_map, Bool.not_eq_true', Bool.not_eq_false'] at *; omega)); omega
      subst hkk
      clear hno
      repeat' (first | (refine AWP.seq ?_) | (refine AWP.region av_ok ?_; conv => whnf) | (refine AWP.ret ?_; conv => whnf) | (refine AWP.skip ?_; conv => whnf) | (refine AWP.exit ?_; conv => whnf) | (refine AWP.block ?_; conv => whnf) | (refine AWP.cond ?_; conv => whnf) | (refine AB.tt ?_; conv => whnf) | (refine AB.ff ?_; conv => whnf) | (refine AB.ofT (by assumption) ?_; conv => whnf) | (refine AB.ofF (by assumption) ?_; conv => whnf) | (refine AB.ofT (by decide) ?_; conv => whnf) | (refine AB.ofF (by decide) ?_; conv => whnf) | (refine ACall.upd (number_m _ h0) 1000 rfl rfl rfl ?_; conv => whnf) | (refine ACall.upd (number_m _ h1) 1000 rfl rfl rfl ?_; conv => whnf) | (refine ACall.upd (number_m _ h2) 1000 rfl rfl rfl ?_; conv => whnf) | (refine ACall.upd (node_m _ h0) 1000 rfl rfl rfl ?_; conv => whnf) | (refine ACall.upd (number_m _ g1) 1000 rfl rfl rfl ?_; conv => whnf) | (refine ACall.upd (node_m _ g1) 1000 rfl rfl rfl ?_; conv => whnf) | (exact trivial) | (refine And.intro rfl ?_; conv => whnf))
theorem step_m4 (s : Sc) (hs : s.ok) (hkd : implKind s.cur = 4) : MCall av 109 [.one (.ref 1000 0 0 0)] [(1000, s.o)] [(1000, (stRead 4 s.next).s.o)] [1000] (.val (.agg [.d (dI 4), .d (dI (stRead 4 s.next).a), .d (dI (stRead 4 s.next).b), .d (dI (stRead 4 s.next).c), .nil])) := by
  have wm := word_m s hs
  have h0 := hs.next
  have h1 := h0.num
  have h2 := h1.num
  have g1 := h0.node
  refine mcall_of av_ok Tryd.func109 rfl Tryd.call109 Tryd.ntmps109 (congrArg Array.toList Tryd.results109) rfl fun S pv => ?_; conv => whnf
  repeat' (first | (refine AWP.seq ?_) | (refine AWP.region av_ok ?_; conv => whnf) | (refine AWP.ret ?_; conv => whnf) | (refine AWP.skip ?_; conv => whnf) | (refine AWP.exit ?_; conv => whnf) | (refine AWP.block ?_; conv => whnf) | (refine AWP.cond ?_; conv => whnf) | (refine AB.tt ?_; conv => whnf) | (refine AB.ff ?_; conv => whnf) | (refine AB.ofT (by assumption) ?_; conv => whnf) | (refine AB.ofF (by assumption) ?_; conv => whnf) | (refine ACall.upd wm 1000 rfl rfl rfl ?_; conv => whnf) | (exact trivial) | (refine And.intro rfl ?_; conv => whnf) | (refine AB.mk (fun h => ?_) (fun h => ?_) <;> (conv => whnf)) | (with_reducible_and_instances rfl) | (exact (rfl : AP.tup _ = AP.tup _)))
  refine AWP.loopS (fun k : Nat => k ≤ 11 ∧ ∀ j : Nat, k < j → j ≤ 11 → kindL j ≠ s.cur) [8, 9, 10, 11, 12, 13, 14, 15, 16, 17, 18, 19, 20, 21] (fun k => []) (fun k => [(9999, .frame (pinsOf [1000]) pv), (1000, s.next.o), (2, .cells 47 [.d (dI 0), .d (dI 0), .d (dI 0), .d (dI 0), .nil]), (4, .cells 47 [.d (dI (k : Int)), .d (dI 0), .d (dI 0), .d (dI 0), .nil])]) (fun k => k) 11 ⟨by omega, fun j h1 h2 => by omega⟩ ?_ (SubO.cons rfl (SubO.cons rfl (SubO.cons rfl (SubO.cons rfl SubO.nil)))) (fun k hR => ?_) <;> (conv => whnf)
  · repeat' (first | exact trivial | (refine And.intro rfl ?_; conv => whnf))
  · obtain ⟨hk, hno⟩ := hR
    repeat' (first | (refine AWP.seq ?_) | (refine AWP.region av_ok ?_; conv => whnf) | (refine AWP.ret ?_; conv => whnf) | (refine AWP.skip ?_; conv => whnf) | (refine AWP.exit ?_; conv => whnf) | (refine AWP.block ?_; conv => whnf) | (refine AWP.cond ?_; conv => whnf) | (refine AB.tt ?_; conv => whnf) | (refine AB.ff ?_; conv => whnf) | (refine AB.ofT (by assumption) ?_; conv => whnf) | (refine AB.ofF (by assumption) ?_; conv => whnf) | (refine And.intro rfl ?_; conv => whnf))
    refine AB.mk (fun h => ?_) (fun h => ?_) <;> (conv => whnf)
    · repeat' (first | (refine AWP.seq ?_) | (refine AWP.region av_ok ?_; conv => whnf) | (refine AWP.ret ?_; conv => whnf) | (refine AWP.skip ?_; conv => whnf) | (refine AWP.exit ?_; conv => whnf) | (refine AWP.block ?_; conv => whnf) | (refine AWP.cond ?_; conv => whnf) | (refine AB.tt ?_; conv => whnf) | (refine AB.ff ?_; conv => whnf) | (refine AB.ofT (by assumption) ?_; conv => whnf) | (refine AB.ofF (by assumption) ?_; conv => whnf) | (refine ACall.pure (istepWord_p (k : Int) (by simp only [decide_eq_true_eq, decide_eq_false_iff_not, List.length_map, Bool.not_eq_true', Bool.not_eq_false'] at *; omega) (by simp only [decide_eq_true_eq, decide_eq_false_iff_not, List.length_map, Bool.not_eq_true', Bool.not_eq_false'] at *; omega)) rfl ?_; conv => whnf) | (refine And.intro rfl ?_; conv => whnf))
      refine AB.mk (fun h2 => ?_) (fun h2 => ?_) <;> (conv => whnf)
      · have hk1 : 1 ≤ k := (by simp only [decide_eq_true_eq, decide_eq_false_iff_not, List.length_map, Bool.not_eq_true', Bool.not_eq_false'] at *; omega)
        have hne : kindL k ≠ s.cur := by rw [str_dec] at h2; simpa using h2
        repeat' (first | (refine AWP.seq ?_) | (refine AWP.region av_ok ?_; conv => whnf) | (refine AWP.ret ?_; conv => whnf) | (refine AWP.skip ?_; conv => whnf) | (refine AWP.exit ?_; conv => whnf) | (refine AWP.block ?_; conv => whnf) | (refine AWP.cond ?_; conv => whnf) | (refine AB.tt ?_; conv => whnf) | (refine AB.ff ?_; conv => whnf) | (refine AB.ofT (by assumption) ?_; conv => whnf) | (refine AB.ofF (by assumption) ?_; conv => whnf) | (refine AW.as ((k - 1 : Nat) : Int) (by rw [wrap_i64_of (by omega) (by omega)]; omega) ?_; conv => whnf) | (refine And.intro rfl ?_; conv => whnf))
        refine ANext.mk ⟨k - 1, ⟨by omega, fun j h1 h2 => ?_⟩, by omega, ?_, SubO.cons rfl (SubO.cons rfl (SubO.cons rfl (SubO.cons rfl SubO.nil)))⟩
        · by_cases hjk : j = k
          · subst hjk; exact hne
          · exact hno j (by omega) h2
        · (conv => whnf); repeat' (first | exact trivial | (refine ⟨rfl, ?_⟩; conv => whnf))
      · have heq : kindL k = s.cur := by rw [str_dec] at h2; simpa using h2
        have hkk : k = 4 := by have := implKind_of hk hno (.inr heq); omega
        subst hkk
        clear h h2 hno
        repeat' (first | (refine AWP.seq ?_) | (refine AWP.region av_ok ?_; conv => whnf) | (refine AWP.ret ?_; conv => whnf) | (refine AWP.skip ?_; conv => whnf) | (refine AWP.exit ?_; conv => whnf) | (refine AWP.block ?_; conv => whnf) | (refine AWP.cond ?_; conv => whnf) | (refine AB.tt ?_; conv => whnf) | (refine AB.ff ?_; conv => whnf) | (refine AB.ofT (by assumption) ?_; conv => whnf) | (refine AB.ofF (by assumption) ?_; conv => whnf) | (refine AB.ofT (by decide) ?_; conv => whnf) | (refine AB.ofF (by decide) ?_; conv => whnf) | (refine ACall.upd (number_m _ h0) 1000 rfl rfl rfl ?_; conv => whnf) | (refine ACall.upd (number_m _ h1) 1000 rfl rfl rfl ?_; conv => whnf) | (refine ACall.upd (number_m _ h2) 1000 rfl rfl rfl ?_; conv => whnf) | (refine ACall.upd (node_m _ h0) 1000 rfl rfl rfl ?_; conv => whnf) | (refine ACall.upd (number_m _ g1) 1000 rfl rfl rfl ?_; conv => whnf) | (refine ACall.upd (node_m _ g1) 1000 rfl rfl rfl ?_; conv => whnf) | (exact trivial) | (refine And.intro rfl ?_; conv => whnf))
    · have hkk : k = 4 := by have := implKind_of hk hno (.inl (by simp only [decide_eq_true_eq, decide_eq_false_iff_not, List.length_map, Bool.not_eq_true', Bool.not_eq_false'] at *; omega)); omega
      subst hkk
      clear hno
      repeat' (first | (refine AWP.seq ?_) | (refine AWP.region av_ok ?_; conv => whnf) | (refine AWP.ret ?_; conv => whnf) | (refine AWP.skip ?_; conv => whnf) | (refine AWP.exit ?_; conv => whnf) | (refine AWP.block ?_; conv => whnf) | (refine AWP.cond ?_; conv => whnf) | (refine AB.tt ?_; conv => whnf) | (refine AB.ff ?_; conv => whnf) | (refine AB.ofT (by assumption) ?_; conv => whnf) | (refine AB.ofF (by assumption) ?_; conv => whnf) | (refine AB.ofT (by decide) ?_; conv => whnf) | (refine AB.ofF (by decide) ?_; conv => whnf) | (refine ACall.upd (number_m _ h0) 1000 rfl rfl rfl ?_; conv => whnf) | (refine ACall.upd (number_m _ h1) 1000 rfl rfl rfl ?_; conv => whnf) | (refine ACall.upd (number_m _ h2) 1000 rfl rfl rfl ?_; conv => whnf) | (refine ACall.upd (node_m _ h0) 1000 rfl rfl rfl ?_; conv => whnf) | (refine ACall.upd (number_m _ g1) 1000 rfl rfl rfl ?_; conv => whnf) | (refine ACall.upd (node_m _ g1) 1000 rfl rfl rfl ?_; conv => whnf) | (exact trivial) | (refine And.intro rfl ?_; conv => whnf))
theorem step_m6 (s : Sc) (hs : s.ok) (hkd : implKind s.cur = 6) : MCall av 109 [.one (.ref 1000 0 0 0)] [(1000, s.o)] [(1000, (stRead 6 s.next).s.o)] [1000] (.val (.agg [.d (dI 6), .d (dI (stRead 6 s.next).a), .d (dI (stRead 6 s.next).b), .d (dI (stRead 6 s.next).c), .nil])) := by
  have wm := word_m s hs
  have h0 := hs.next
  have h1 := h0.num
  have h2 := h1.num
  have g1 := h0.node
  refine mcall_of av_ok Tryd.func109 rfl Tryd.call109 Tryd.ntmps109 (congrArg Array.toList Tryd.results109) rfl fun S pv => ?_; conv => whnf
  repeat' (first | (refine AWP.seq ?_) | (refine AWP.region av_ok ?_; conv => whnf) | (refine AWP.ret ?_; conv => whnf) | (refine AWP.skip ?_; conv => whnf) | (refine AWP.exit ?_; conv => whnf) | (refine AWP.block ?_; conv => whnf) | (refine AWP.cond ?_; conv => whnf) | (refine AB.tt ?_; conv => whnf) | (refine AB.ff ?_; conv => whnf) | (refine AB.ofT (by assumption) ?_; conv => whnf) | (refine AB.ofF (by assumption) ?_; conv => whnf) | (refine ACall.upd wm 1000 rfl rfl rfl ?_; conv => whnf) | (exact trivial) | (refine And.intro rfl ?_; conv => whnf) | (refine AB.mk (fun h => ?_) (fun h => ?_) <;> (conv => whnf)) | (with_reducible_and_instances rfl) | (exact (rfl : AP.tup _ = AP.tup _)))
  refine AWP.loopS (fun k : Nat => k ≤ 11 ∧ ∀ j : Nat, k < j → j ≤ 11 → kindL j ≠ s.cur) [8, 9, 10, 11, 12, 13, 14, 15, 16, 17, 18, 19, 20, 21] (fun k => []) (fun k => [(9999, .frame (pinsOf [1000]) pv), (1000, s.next.o), (2, .cells 47 [.d (dI 0), .d (dI 0), .d (dI 0), .d (dI 0), .nil]), (4, .cells 47 [.d (dI (k : Int)), .d (dI 0), .d (dI 0), .d (dI 0), .nil])]) (fun k => k) 11 ⟨by omega, fun j h1 h2 => by omega⟩ ?_ (SubO.cons rfl (SubO.cons rfl (SubO.cons rfl (SubO.cons rfl SubO.nil)))) (fun k hR => ?_) <;> (conv => whnf)
  · repeat' (first | exact trivial | (refine And.intro rfl ?_; conv => whnf))
  · obtain ⟨hk, hno⟩ := hR
    repeat' (first | (refine AWP.seq ?_) | (refine AWP.region av_ok ?_; conv => whnf) | (refine AWP.ret ?_; conv => whnf) | (refine AWP.skip ?_; conv => whnf) | (refine AWP.exit ?_; conv => whnf) | (refine AWP.block ?_; conv => whnf) | (refine AWP.cond ?_; conv => whnf) | (refine AB.tt ?_; conv => whnf) | (refine AB.ff ?_; conv => whnf) | (refine AB.ofT (by assumption) ?_; conv => whnf) | (refine AB.ofF (by assumption) ?_; conv => whnf) | (refine And.intro rfl ?_; conv => whnf))
    refine AB.mk (fun h => ?_) (fun h => ?_) <;> (conv => whnf)
    · repeat' (first | (refine AWP.seq ?_) | (refine AWP.region av_ok ?_; conv => whnf) | (refine AWP.ret ?_; conv => whnf) | (refine AWP.skip ?_; conv => whnf) | (refine AWP.exit ?_; conv => whnf) | (refine AWP.block ?_; conv => whnf) | (refine AWP.cond ?_; conv => whnf) | (refine AB.tt ?_; conv => whnf) | (refine AB.ff ?_; conv => whnf) | (refine AB.ofT (by assumption) ?_; conv => whnf) | (refine AB.ofF (by assumption) ?_; conv => whnf) | (refine ACall.pure (istepWord_p (k : Int) (by simp only [decide_eq_true_eq, decide_eq_false_iff_not, List.length_map, Bool.not_eq_true', Bool.not_eq_false'] at *; omega) (by simp only [decide_eq_true_eq, decide_eq_false_iff_not, List.length_map, Bool.not_eq_true', Bool.not_eq_false'] at *; omega)) rfl ?_; conv => whnf) | (refine And.intro rfl ?_; conv => whnf))
      refine AB.mk (fun h2 => ?_) (fun h2 => ?_) <;> (conv => whnf)
      · have hk1 : 1 ≤ k := (by simp only [decide_eq_true_eq, decide_eq_false_iff_not, List.length_map, Bool.not_eq_true', Bool.not_eq_false'] at *; omega)
        have hne : kindL k ≠ s.cur := by rw [str_dec] at h2; simpa using h2
        repeat' (first | (refine AWP.seq ?_) | (refine AWP.region av_ok ?_; conv => whnf) | (refine AWP.ret ?_; conv => whnf) | (refine AWP.skip ?_; conv => whnf) | (refine AWP.exit ?_; conv => whnf) | (refine AWP.block ?_; conv => whnf) | (refine AWP.cond ?_; conv => whnf) | (refine AB.tt ?_; conv => whnf) | (refine AB.ff ?_; conv => whnf) | (refine AB.ofT (by assumption) ?_; conv => whnf) | (refine AB.ofF (by assumption) ?_; conv => whnf) | (refine AW.as ((k - 1 : Nat) : Int) (by rw [wrap_i64_of (by omega) (by omega)]; omega) ?_; conv => whnf) | (refine And.intro rfl ?_; conv => whnf))
        refine ANext.mk ⟨k - 1, ⟨by omega, fun j h1 h2 => ?_⟩, by omega, ?_, SubO.cons rfl (SubO.cons rfl (SubO.cons rfl (SubO.cons rfl SubO.nil)))⟩
        · by_cases hjk : j = k
          · subst hjk; exact hne
          · exact hno j (by omega) h2
        · (conv => whnf); repeat' (first | exact trivial | (refine ⟨rfl, ?_⟩; conv => whnf))
      · have heq : kindL k = s.cur := by rw [str_dec] at h2; simpa using h2
        have hkk : k = 6 := by have := implKind_of hk hno (.inr heq); omega
        subst hkk
        clear h h2 hno
        repeat' (first | (refine AWP.seq ?_) | (refine AWP.region av_ok ?_; conv => whnf) | (refine AWP.ret ?_; conv => whnf) | (refine AWP.skip ?_; conv => whnf) | (refine AWP.exit ?_; conv => whnf) | (refine AWP.block ?_; conv => whnf) | (refine AWP.cond ?_; conv => whnf) | (refine AB.tt ?_; conv => whnf) | (refine AB.ff ?_; conv => whnf) | (refine AB.ofT (by assumption) ?_; conv => whnf) | (refine AB.ofF (by assumption) ?_; conv => whnf) | (refine AB.ofT (by decide) ?_; conv => whnf) | (refine AB.ofF (by decide) ?_; conv => whnf) | (refine ACall.upd (number_m _ h0) 1000 rfl rfl rfl ?_; conv => whnf) | (refine ACall.upd (number_m _ h1) 1000 rfl rfl rfl ?_; conv => whnf) | (refine ACall.upd (number_m _ h2) 1000 rfl rfl rfl ?_; conv => whnf) | (refine ACall.upd (node_m _ h0) 1000 rfl rfl rfl ?_; conv => whnf) | (refine ACall.upd (number_m _ g1) 1000 rfl rfl rfl ?_; conv => whnf) | (refine ACall.upd (node_m _ g1) 1000 rfl rfl rfl ?_; conv => whnf) | (exact trivial) | (refine And.intro rfl ?_; conv => whnf))
    · have hkk : k = 6 := by have := implKind_of hk hno (.inl (by simp only [decide_eq_true_eq, decide_eq_false_iff_not, List.length_map, Bool.not_eq_true', Bool.not_eq_false'] at *; omega)); omega
      subst hkk
      clear hno
      repeat' (first | (refine AWP.seq ?_) | (refine AWP.region av_ok ?_; conv => whnf) | (refine AWP.ret ?_; conv => whnf) | (refine AWP.skip ?_; conv => whnf) | (refine AWP.exit ?_; conv => whnf) | (refine AWP.block ?_; conv => whnf) | (refine AWP.cond ?_; conv => whnf) | (refine AB.tt ?_; conv => whnf) | (refine AB.ff ?_; conv => whnf) | (refine AB.ofT (by assumption) ?_; conv => whnf) | (refine AB.ofF (by assumption) ?_; conv => whnf) | (refine AB.ofT (by decide) ?_; conv => whnf) | (refine AB.ofF (by decide) ?_; conv => whnf) | (refine ACall.upd (number_m _ h0) 1000 rfl rfl rfl ?_; conv => whnf) | (refine ACall.upd (number_m _ h1) 1000 rfl rfl rfl ?_; conv => whnf) | (refine ACall.upd (number_m _ h2) 1000 rfl rfl rfl ?_; conv => whnf) | (refine ACall.upd (node_m _ h0) 1000 rfl rfl rfl ?_; conv => whnf) | (refine ACall.upd (number_m _ g1) 1000 rfl rfl rfl ?_; conv => whnf) | (refine ACall.upd (node_m _ g1) 1000 rfl rfl rfl ?_; conv => whnf) | (exact trivial) | (refine And.intro rfl ?_; conv => whnf))
theorem step_m7 (s : Sc) (hs : s.ok) (hkd : implKind s.cur = 7) : MCall av 109 [.one (.ref 1000 0 0 0)] [(1000, s.o)] [(1000, (stRead 7 s.next).s.o)] [1000] (.val (.agg [.d (dI 7), .d (dI (stRead 7 s.next).a), .d (dI (stRead 7 s.next).b), .d (dI (stRead 7 s.next).c), .nil])) := by
  have wm := word_m s hs
  have h0 := hs.next
  have h1 := h0.num
  have h2 := h1.num
  have g1 := h0.node
  refine mcall_of av_ok Tryd.func109 rfl Tryd.call109 Tryd.ntmps109 (congrArg Array.toList Tryd.results109) rfl fun S pv => ?_; conv => whnf
  repeat' (first | (refine AWP.seq ?_) | (refine AWP.region av_ok ?_; conv => whnf) | (refine AWP.ret ?_; conv => whnf) | (refine AWP.skip ?_; conv => whnf) | (refine AWP.exit ?_; conv => whnf) | (refine AWP.block ?_; conv => whnf) | (refine AWP.cond ?_; conv => whnf) | (refine AB.tt ?_; conv => whnf) | (refine AB.ff ?_; conv => whnf) | (refine AB.ofT (by assumption) ?_; conv => whnf) | (refine AB.ofF (by assumption) ?_; conv => whnf) | (refine ACall.upd wm 1000 rfl rfl rfl ?_; conv => whnf) | (exact trivial) | (refine And.intro rfl ?_; conv => whnf) | (refine AB.mk (fun h => ?_) (fun h => ?_) <;> (conv => whnf)) | (with_reducible_and_instances rfl) | (exact (rfl : AP.tup _ = AP.tup _)))
  refine AWP.loopS (fun k : Nat => k ≤ 11 ∧ ∀ j : Nat, k < j → j ≤ 11 → kindL j ≠ s.cur) [8, 9, 10, 11, 12, 13, 14, 15, 16, 17, 18, 19, 20, 21] (fun k => []) (fun k => [(9999, .frame (pinsOf [1000]) pv), (1000, s.next.o), (2, .cells 47 [.d (dI 0), .d (dI 0), .d (dI 0), .d (dI 0), .nil]), (4, .cells 47 [.d (dI (k : Int)), .d (dI 0), .d (dI 0), .d (dI 0), .nil])]) (fun k => k) 11 ⟨by omega, fun j h1 h2 => by omega⟩ ?_ (SubO.cons rfl (SubO.cons rfl (SubO.cons rfl (SubO.cons rfl SubO.nil)))) (fun k hR => ?_) <;> (conv => whnf)
  · repeat' (first | exact trivial | (refine And.intro rfl ?_; conv => whnf))
  · obtain ⟨hk, hno⟩ := hR
    repeat' (first | (refine AWP.seq ?_) | (refine AWP.region av_ok ?_; conv => whnf) | (refine AWP.ret ?_; conv => whnf) | (refine AWP.skip ?_; conv => whnf) | (refine AWP.exit ?_; conv => whnf) | (refine AWP.block ?_; conv => whnf) | (refine AWP.cond ?_; conv => whnf) | (refine AB.tt ?_; conv => whnf) | (refine AB.ff ?_; conv => whnf) | (refine AB.ofT (by assumption) ?_; conv => whnf) | (refine AB.ofF (by assumption) ?_; conv => whnf) | (refine And.intro rfl ?_; conv => whnf))
    refine AB.mk (fun h => ?_) (fun h => ?_) <;> (conv => whnf)
    · repeat' (first | (refine AWP.seq ?_) | (refine AWP.region av_ok ?_; conv => whnf) | (refine AWP.ret ?_; conv => whnf) | (refine AWP.skip ?_; conv => whnf) | (refine AWP.exit ?_; conv => whnf) | (refine AWP.block ?_; conv => whnf) | (refine AWP.cond ?_; conv => whnf) | (refine AB.tt ?_; conv => whnf) | (refine AB.ff ?_; conv => whnf) | (refine AB.ofT (by assumption) ?_; conv => whnf) | (refine AB.ofF (by assumption) ?_; conv => whnf) | (refine ACall.pure (istepWord_p (k : Int) (by simp only [decide_eq_true_eq, decide_eq_false_iff_not, List.length_map, Bool.not_eq_true', Bool.not_eq_false'] at *; omega) (by simp only [decide_eq_true_eq, decide_eq_false_iff_not, List.length_map, Bool.not_eq_true', Bool.not_eq_false'] at *; omega)) rfl ?_; conv => whnf) | (refine And.intro rfl ?_; conv => whnf))
      refine AB.mk (fun h2 => ?_) (fun h2 => ?_) <;> (conv => whnf)
      · have hk1 : 1 ≤ k := (by simp only [decide_eq_true_eq, decide_eq_false_iff_not, List.length_map, Bool.not_eq_true', Bool.not_eq_false'] at *; omega)
        have hne : kindL k ≠ s.cur := by rw [str_dec] at h2; simpa using h2
        repeat' (first | (refine AWP.seq ?_) | (refine AWP.region av_ok ?_; conv => whnf) | (refine AWP.ret ?_; conv => whnf) | (refine AWP.skip ?_; conv => whnf) | (refine AWP.exit ?_; conv => whnf) | (refine AWP.block ?_; conv => whnf) | (refine AWP.cond ?_; conv => whnf) | (refine AB.tt ?_; conv => whnf) | (refine AB.ff ?_; conv => whnf) | (refine AB.ofT (by assumption) ?_; conv => whnf) | (refine AB.ofF (by assumption) ?_; conv => whnf) | (refine AW.as ((k - 1 : Nat) : Int) (by rw [wrap_i64_of (by omega) (by omega)]; omega) ?_; conv => whnf) | (refine And.intro rfl ?_; conv => whnf))
        refine ANext.mk ⟨k - 1, ⟨by omega, fun j h1 h2 => ?_⟩, by omega, ?_, SubO.cons rfl (SubO.cons rfl (SubO.cons rfl (SubO.cons rfl SubO.nil)))⟩
        · by_cases hjk : j = k
          · subst hjk; exact hne
          · exact hno j (by omega) h2
        · (conv => whnf); repeat' (first | exact trivial | (refine ⟨rfl, ?_⟩; conv => whnf))
      · have heq : kindL k = s.cur := by rw [str_dec] at h2; simpa using h2
        have hkk : k = 7 := by have := implKind_of hk hno (.inr heq); omega
        subst hkk
        clear h h2 hno
        repeat' (first | (refine AWP.seq ?_) | (refine AWP.region av_ok ?_; conv => whnf) | (refine AWP.ret ?_; conv => whnf) | (refine AWP.skip ?_; conv => whnf) | (refine AWP.exit ?_; conv => whnf) | (refine AWP.block ?_; conv => whnf) | (refine AWP.cond ?_; conv => whnf) | (refine AB.tt ?_; conv => whnf) | (refine AB.ff ?_; conv => whnf) | (refine AB.ofT (by assumption) ?_; conv => whnf) | (refine AB.ofF (by assumption) ?_; conv => whnf) | (refine AB.ofT (by decide) ?_; conv => whnf) | (refine AB.ofF (by decide) ?_; conv => whnf) | (refine ACall.upd (number_m _ h0) 1000 rfl rfl rfl ?_; conv => whnf) | (refine ACall.upd (number_m _ h1) 1000 rfl rfl rfl ?_; conv => whnf) | (refine ACall.upd (number_m _ h2) 1000 rfl rfl rfl ?_; conv => whnf) | (refine ACall.upd (node_m _ h0) 1000 rfl rfl rfl ?_; conv => whnf) | (refine ACall.upd (number_m _ g1) 1000 rfl rfl rfl ?_; conv => whnf) | (refine ACall.upd (node_m _ g1) 1000 rfl rfl rfl ?_; conv => whnf) | (exact trivial) | (refine And.intro rfl ?_; conv => whnf))
    · have hkk : k = 7 := by have := implKind_of hk hno (.inl (by simp only [decide_eq_true_eq, decide_eq_false_iff_not, List.length_map, Bool.not_eq_true', Bool.not_eq_false'] at *; omega)); omega
      subst hkk
      clear hno
      repeat' (first | (refine AWP.seq ?_) | (refine AWP.region av_ok ?_; conv => whnf) | (refine AWP.ret ?_; conv => whnf) | (refine AWP.skip ?_; conv => whnf) | (refine AWP.exit ?_; conv => whnf) | (refine AWP.block ?_; conv => whnf) | (refine AWP.cond ?_; conv => whnf) | (refine AB.tt ?_; conv => whnf) | (refine AB.ff ?_; conv => whnf) | (refine AB.ofT (by assumption) ?_; conv => whnf) | (refine AB.ofF (by assumption) ?_; conv => whnf) | (refine AB.ofT (by decide) ?_; conv => whnf) | (refine AB.ofF (by decide) ?_; conv => whnf) | (refine ACall.upd (number_m _ h0) 1000 rfl rfl rfl ?_; conv => whnf) | (refine ACall.upd (number_m _ h1) 1000 rfl rfl rfl ?_; conv => whnf) | (refine ACall.upd (number_m _ h2) 1000 rfl rfl rfl ?_; conv => whnf) | (refine ACall.upd (node_m _ h0) 1000 rfl rfl rfl ?_; conv => whnf) | (refine ACall.upd (number_m _ g1) 1000 rfl rfl rfl ?_; conv => whnf) | (refine ACall.upd (node_m _ g1) 1000 rfl rfl rfl ?_; conv => whnf) | (exact trivial) | (refine And.intro rfl ?_; conv => whnf))
theorem step_m8 (s : Sc) (hs : s.ok) (hkd : implKind s.cur = 8) : MCall av 109 [.one (.ref 1000 0 0 0)] [(1000, s.o)] [(1000, (stRead 8 s.next).s.o)] [1000] (.val (.agg [.d (dI 8), .d (dI (stRead 8 s.next).a), .d (dI (stRead 8 s.next).b), .d (dI (stRead 8 s.next).c), .nil])) := by
  have wm := word_m s hs
  have h0 := hs.next
  have h1 := h0.num
  have h2 := h1.num
  have g1 := h0.node
  refine mcall_of av_ok Tryd.func109 rfl Tryd.call109 Tryd.ntmps109 (congrArg Array.toList Tryd.results109) rfl fun S pv => ?_; conv => whnf
  repeat' (first | (refine AWP.seq ?_) | (refine AWP.region av_ok ?_; conv => whnf) | (refine AWP.ret ?_; conv => whnf) | (refine AWP.skip ?_; conv => whnf) | (refine AWP.exit ?_; conv => whnf) | (refine AWP.block ?_; conv => whnf) | (refine AWP.cond ?_; conv => whnf) | (refine AB.tt ?_; conv => whnf) | (refine AB.ff ?_; conv => whnf) | (refine AB.ofT (by assumption) ?_; conv => whnf) | (refine AB.ofF (by assumption) ?_; conv => whnf) | (refine ACall.upd wm 1000 rfl rfl rfl ?_; conv => whnf) | (exact trivial) | (refine And.intro rfl ?_; conv => whnf) | (refine AB.mk (fun h => ?_) (fun h => ?_) <;> (conv => whnf)) | (with_reducible_and_instances rfl) | (exact (rfl : AP.tup _ = AP.tup _)))
  refine AWP.loopS (fun k : Nat => k ≤ 11 ∧ ∀ j : Nat, k < j → j ≤ 11 → kindL j ≠ s.cur) [8, 9, 10, 11, 12, 13, 14, 15, 16, 17, 18, 19, 20, 21] (fun k => []) (fun k => [(9999, .frame (pinsOf [1000]) pv), (1000, s.next.o), (2, .cells 47 [.d (dI 0), .d (dI 0), .d (dI 0), .d (dI 0), .nil]), (4, .cells 47 [.d (dI (k : Int)), .d (dI 0), .d (dI 0), .d (dI 0), .nil])]) (fun k => k) 11 ⟨by omega, fun j h1 h2 => by omega⟩ ?_ (SubO.cons rfl (SubO.cons rfl (SubO.cons rfl (SubO.cons rfl SubO.nil)))) (fun k hR => ?_) <;> (conv => whnf)
  · repeat' (first | exact trivial | (refine And.intro rfl ?_; conv => whnf))
  · obtain ⟨hk, hno⟩ := hR
    repeat' (first | (refine AWP.seq ?_) | (refine AWP.region av_ok ?_; conv => whnf) | (refine AWP.ret ?_; conv => whnf) | (refine AWP.skip ?_; conv => whnf) | (refine AWP.exit ?_; conv => whnf) | (refine AWP.block ?_; conv => whnf) | (refine AWP.cond ?_; conv => whnf) | (refine AB.tt ?_; conv => whnf) | (refine AB.ff ?_; conv => whnf) | (refine AB.ofT (by assumption) ?_; conv => whnf) | (refine AB.ofF (by assumption) ?_; conv => whnf) | (refine And.intro rfl ?_; conv => whnf))
    refine AB.mk (fun h => ?_) (fun h => ?_) <;> (conv => whnf)
    · repeat' (first | (refine AWP.seq ?_) | (refine AWP.region av_ok ?_; conv => whnf) | (refine AWP.ret ?_; conv => whnf) | (refine AWP.skip ?_; conv => whnf) | (refine AWP.exit ?_; conv => whnf) | (refine AWP.block ?_; conv => whnf) | (refine AWP.cond ?_; conv => whnf) | (refine AB.tt ?_; conv => whnf) | (refine AB.ff ?_; conv => whnf) | (refine AB.ofT (by assumption) ?_; conv => whnf) | (refine AB.ofF (by assumption) ?_; conv => whnf) | (refine ACall.pure (istepWord_p (k : Int) (by simp only [decide_eq_true_eq, decide_eq_false_iff_not, List.length_map, Bool.not_eq_true', Bool.not_eq_false'] at *; omega) (by simp only [decide_eq_true_eq, decide_eq_false_iff_not, List.length_map, Bool.not_eq_true', Bool.not_eq_false'] at *; omega)) rfl ?_; conv => whnf) | (refine And.intro rfl ?_; conv => whnf))
      refine AB.mk (fun h2 => ?_) (fun h2 => ?_) <;> (conv => whnf)
      · have hk1 : 1 ≤ k := (by simp only [decide_eq_true_eq, decide_eq_false_iff_not, List.length_map, Bool.not_eq_true', Bool.not_eq_false'] at *; omega)
        have hne : kindL k ≠ s.cur := by rw [str_dec] at h2; simpa using h2
        repeat' (first | (refine AWP.seq ?_) | (refine AWP.region av_ok ?_; conv => whnf) | (refine AWP.ret ?_; conv => whnf) | (refine AWP.skip ?_; conv => whnf) | (refine AWP.exit ?_; conv => whnf) | (refine AWP.block ?_; conv => whnf) | (refine AWP.cond ?_; conv => whnf) | (refine AB.tt ?_; conv => whnf) | (refine AB.ff ?_; conv => whnf) | (refine AB.ofT (by assumption) ?_; conv => whnf) | (refine AB.ofF (by assumption) ?_; conv => whnf) | (refine AW.as ((k - 1 : Nat) : Int) (by rw [wrap_i64_of (by omega) (by omega)]; omega) ?_; conv => whnf) | (refine And.intro rfl ?_; conv => whnf))
        refine ANext.mk ⟨k - 1, ⟨by omega, fun j h1 h2 => ?_⟩, by omega, ?_, SubO.cons rfl (SubO.cons rfl (SubO.cons rfl (SubO.cons rfl SubO.nil)))⟩
        · by_cases hjk : j = k
          · subst hjk; exact hne
          · exact hno j (by omega) h2
        · (conv => whnf); repeat' (first | exact trivial | (refine ⟨rfl, ?_⟩; conv => whnf))
      · have heq : kindL k = s.cur := by rw [str_dec] at h2; simpa using h2
        have hkk : k = 8 := by have := implKind_of hk hno (.inr heq); omega
        subst hkk
        clear h h2 hno
        repeat' (first | (refine AWP.seq ?_) | (refine AWP.region av_ok ?_; conv => whnf) | (refine AWP.ret ?_; conv => whnf) | (refine AWP.skip ?_; conv => whnf) | (refine AWP.exit ?_; conv => whnf) | (refine AWP.block ?_; conv => whnf) | (refine AWP.cond ?_; conv => whnf) | (refine AB.tt ?_; conv => whnf) | (refine AB.ff ?_; conv => whnf) | (refine AB.ofT (by assumption) ?_; conv => whnf) | (refine AB.ofF (by assumption) ?_; conv => whnf) | (refine AB.ofT (by decide) ?_; conv => whnf) | (refine AB.ofF (by decide) ?_; conv => whnf) | (refine ACall.upd (number_m _ h0) 1000 rfl rfl rfl ?_; conv => whnf) | (refine ACall.upd (number_m _ h1) 1000 rfl rfl rfl ?_; conv => whnf) | (refine ACall.upd (number_m _ h2) 1000 rfl rfl rfl ?_; conv => whnf) | (refine ACall.upd (node_m _ h0) 1000 rfl rfl rfl ?_; conv => whnf) | (refine ACall.upd (number_m _ g1) 1000 rfl rfl rfl ?_; conv => whnf) | (refine ACall.upd (node_m _ g1) 1000 rfl rfl rfl ?_; conv => whnf) | (exact trivial) | (refine And.intro rfl ?_; conv => whnf))
    · have hkk : k = 8 := by have := implKind_of hk hno (.inl (by simp only [decide_eq_true_eq, decide_eq_false_iff_not, List.length_map, Bool.not_eq_true', Bool.not_eq_false'] at *; omega)); omega
      subst hkk
      clear hno
      repeat' (first | (refine AWP.seq ?_) | (refine AWP.region av_ok ?_; conv => whnf) | (refine AWP.ret ?_; conv => whnf) | (refine AWP.skip ?_; conv => whnf) | (refine AWP.exit ?_; conv => whnf) | (refine AWP.block ?_; conv => whnf) | (refine AWP.cond ?_; conv => whnf) | (refine AB.tt ?_; conv => whnf) | (refine AB.ff ?_; conv => whnf) | (refine AB.ofT (by assumption) ?_; conv => whnf) | (refine AB.ofF (by assumption) ?_; conv => whnf) | (refine AB.ofT (by decide) ?_; conv => whnf) | (refine AB.ofF (by decide) ?_; conv => whnf) | (refine ACall.upd (number_m _ h0) 1000 rfl rfl rfl ?_; conv => whnf) | (refine ACall.upd (number_m _ h1) 1000 rfl rfl rfl ?_; conv => whnf) | (refine ACall.upd (number_m _ h2) 1000 rfl rfl rfl ?_; conv => whnf) | (refine ACall.upd (node_m _ h0) 1000 rfl rfl rfl ?_; conv => whnf) | (refine ACall.upd (number_m _ g1) 1000 rfl rfl rfl ?_; conv => whnf) | (refine ACall.upd (node_m _ g1) 1000 rfl rfl rfl ?_; conv => whnf) | (exact trivial) | (refine And.intro rfl ?_; conv => whnf))
theorem step_m9 (s : Sc) (hs : s.ok) (hkd : implKind s.cur = 9) : MCall av 109 [.one (.ref 1000 0 0 0)] [(1000, s.o)] [(1000, (stRead 9 s.next).s.o)] [1000] (.val (.agg [.d (dI 9), .d (dI (stRead 9 s.next).a), .d (dI (stRead 9 s.next).b), .d (dI (stRead 9 s.next).c), .nil])) := by
  have wm := word_m s hs
  have h0 := hs.next
  have h1 := h0.num
  have h2 := h1.num
  have g1 := h0.node
  refine mcall_of av_ok Tryd.func109 rfl Tryd.call109 Tryd.ntmps109 (congrArg Array.toList Tryd.results109) rfl fun S pv => ?_; conv => whnf
  repeat' (first | (refine AWP.seq ?_) | (refine AWP.region av_ok ?_; conv => whnf) | (refine AWP.ret ?_; conv => whnf) | (refine AWP.skip ?_; conv => whnf) | (refine AWP.exit ?_; conv => whnf) | (refine AWP.block ?_; conv => whnf) | (refine AWP.cond ?_; conv => whnf) | (refine AB.tt ?_; conv => whnf) | (refine AB.ff ?_; conv => whnf) | (refine AB.ofT (by assumption) ?_; conv => whnf) | (refine AB.ofF (by assumption) ?_; conv => whnf) | (refine ACall.upd wm 1000 rfl rfl rfl ?_; conv => whnf) | (exact trivial) | (refine And.intro rfl ?_; conv => whnf) | (refine AB.mk (fun h => ?_) (fun h => ?_) <;> (conv => whnf)) | (with_reducible_and_instances rfl) | (exact (rfl : AP.tup _ = AP.tup _)))
  refine AWP.loopS (fun k : Nat => k ≤ 11 ∧ ∀ j : Nat, k < j → j ≤ 11 → kindL j ≠ s.cur) [8, 9, 10, 11, 12, 13, 14, 15, 16, 17, 18, 19, 20, 21] (fun k => []) (fun k => [(9999, .frame (pinsOf [1000]) pv), (1000, s.next.o), (2, .cells 47 [.d (dI 0), .d (dI 0), .d (dI 0), .d (dI 0), .nil]), (4, .cells 47 [.d (dI (k : Int)), .d (dI 0), .d (dI 0), .d (dI 0), .nil])]) (fun k => k) 11 ⟨by omega, fun j h1 h2 => by omega⟩ ?_ (SubO.cons rfl (SubO.cons rfl (SubO.cons rfl (SubO.cons rfl SubO.nil)))) (fun k hR => ?_) <;> (conv => whnf)
  · repeat' (first | exact trivial | (refine And.intro rfl ?_; conv => whnf))
  · obtain ⟨hk, hno⟩ := hR
    repeat' (first | (refine AWP.seq ?_) | (refine AWP.region av_ok ?_; conv => whnf) | (refine AWP.ret ?_; conv => whnf) | (refine AWP.skip ?_; conv => whnf) | (refine AWP.exit ?_; conv => whnf) | (refine AWP.block ?_; conv => whnf) | (refine AWP.cond ?_; conv => whnf) | (refine AB.tt ?_; conv => whnf) | (refine AB.ff ?_; conv => whnf) | (refine AB.ofT (by assumption) ?_; conv => whnf) | (refine AB.ofF (by assumption) ?_; conv => whnf) | (refine And.intro rfl ?_; conv => whnf))
    refine AB.mk (fun h => ?_) (fun h => ?_) <;> (conv => whnf)
    · repeat' (first | (refine AWP.seq ?_) | (refine AWP.region av_ok ?_; conv => whnf) | (refine AWP.ret ?_; conv => whnf) | (refine AWP.skip ?_; conv => whnf) | (refine AWP.exit ?_; conv => whnf) | (refine AWP.block ?_; conv => whnf) | (refine AWP.cond ?_; conv => whnf) | (refine AB.tt ?_; conv => whnf) | (refine AB.ff ?_; conv => whnf) | (refine AB.ofT (by assumption) ?_; conv => whnf) | (refine AB.ofF (by assumption) ?_; conv => whnf) | (refine ACall.pure (istepWord_p (k : Int) (by simp only [decide_eq_true_eq, decide_eq_false_iff_not, List.length_map, Bool.not_eq_true', Bool.not_eq_false'] at *; omega) (by simp only [decide_eq_true_eq, decide_eq_false_iff_not, List.length_map, Bool.not_eq_true', Bool.not_eq_false'] at *; omega)) rfl ?_; conv => whnf) | (refine And.intro rfl ?_; conv => whnf))
      refine AB.mk (fun h2 => ?_) (fun h2 => ?_) <;> (conv => whnf)
      · have hk1 : 1 ≤ k := (by simp only [decide_eq_true_eq, decide_eq_false_iff_not, List.length_map, Bool.not_eq_true', Bool.not_eq_false'] at *; omega)
        have hne : kindL k ≠ s.cur := by rw [str_dec] at h2; simpa using h2
        repeat' (first | (refine AWP.seq ?_) | (refine AWP.region av_ok ?_; conv => whnf) | (refine AWP.ret ?_; conv => whnf) | (refine AWP.skip ?_; conv => whnf) | (refine AWP.exit ?_; conv => whnf) | (refine AWP.block ?_; conv => whnf) | (refine AWP.cond ?_; conv => whnf) | (refine AB.tt ?_; conv => whnf) | (refine AB.ff ?_; conv => whnf) | (refine AB.ofT (by assumption) ?_; conv => whnf) | (refine AB.ofF (by assumption) ?_; conv => whnf) | (refine AW.as ((k - 1 : Nat) : Int) (by rw [wrap_i64_of (by omega) (by omega)]; omega) ?_; conv => whnf) | (refine And.intro rfl ?_; conv => whnf))
        refine ANext.mk ⟨k - 1, ⟨by omega, fun j h1 h2 => ?_⟩, by omega, ?_, SubO.cons rfl (SubO.cons rfl (SubO.cons rfl (SubO.cons rfl SubO.nil)))⟩
        · by_cases hjk : j = k
          · subst hjk; exact hne
          · exact hno j (by omega) h2
        · (conv => whnf); repeat' (first | exact trivial | (refine ⟨rfl, ?_⟩; conv => whnf))
      · have heq : kindL k = s.cur := by rw [str_dec] at h2; simpa using h2
        have hkk : k = 9 := by have := implKind_of hk hno (.inr heq); omega
        subst hkk
        clear h h2 hno
        repeat' (first | (refine AWP.seq ?_) | (refine AWP.region av_ok ?_; conv => whnf) | (refine AWP.ret ?_; conv => whnf) | (refine AWP.skip ?_; conv => whnf) | (refine AWP.exit ?_; conv => whnf) | (refine AWP.block ?_; conv => whnf) | (refine AWP.cond ?_; conv => whnf) | (refine AB.tt ?_; conv => whnf) | (refine AB.ff ?_; conv => whnf) | (refine AB.ofT (by assumption) ?_; conv => whnf) | (refine AB.ofF (by assumption) ?_; conv => whnf) | (refine AB.ofT (by decide) ?_; conv => whnf) | (refine AB.ofF (by decide) ?_; conv => whnf) | (refine ACall.upd (number_m _ h0) 1000 rfl rfl rfl ?_; conv => whnf) | (refine ACall.upd (number_m _ h1) 1000 rfl rfl rfl ?_; conv => whnf) | (refine ACall.upd (number_m _ h2) 1000 rfl rfl rfl ?_; conv => whnf) | (refine ACall.upd (node_m _ h0) 1000 rfl rfl rfl ?_; conv => whnf) | (refine ACall.upd (number_m _ g1) 1000 rfl rfl rfl ?_; conv => whnf) | (refine ACall.upd (node_m _ g1) 1000 rfl rfl rfl ?_; conv => whnf) | (exact trivial) | (refine And.intro rfl ?_; conv => whnf))
    · have hkk : k = 9 := by have := implKind_of hk hno (.inl (by simp only [decide_eq_true_eq, decide_eq_false_iff_not, List.length_map, Bool.not_eq_true', Bool.not_eq_false'] at *; omega)); omega
      subst hkk
      clear hno
      repeat' (first | (refine AWP.seq ?_) | (refine AWP.region av_ok ?_; conv => whnf) | (refine AWP.ret ?_; conv => whnf) | (refine AWP.skip ?_; conv => whnf) | (refine AWP.exit ?_; conv => whnf) | (refine AWP.block ?_; conv => whnf) | (refine AWP.cond ?_; conv => whnf) | (refine AB.tt ?_; conv => whnf) | (refine AB.ff ?_; conv => whnf) | (refine AB.ofT (by assumption) ?_; conv => whnf) | (refine AB.ofF (by assumption) ?_; conv => whnf) | (refine AB.ofT (by decide) ?_; conv => whnf) | (refine AB.ofF (by decide) ?_; conv => whnf) | (refine ACall.upd (number_m _ h0) 1000 rfl rfl rfl ?_; conv => whnf) | (refine ACall.upd (number_m _ h1) 1000 rfl rfl rfl ?_; conv => whnf) | (refine ACall.upd (number_m _ h2) 1000 rfl rfl rfl ?_; conv => whnf) | (refine ACall.upd (node_m _ h0) 1000 rfl rfl rfl ?_; conv => whnf) | (refine ACall.upd (number_m _ g1) 1000 rfl rfl rfl ?_; conv => whnf) | (refine ACall.upd (node_m _ g1) 1000 rfl rfl rfl ?_; conv => whnf) | (exact trivial) | (refine And.intro rfl ?_; conv => whnf))
theorem step_m10 (s : Sc) (hs : s.ok) (hkd : implKind s.cur = 10) : MCall av 109 [.one (.ref 1000 0 0 0)] [(1000, s.o)] [(1000, (stRead 10 s.next).s.o)] [1000] (.val (.agg [.d (dI 10), .d (dI (stRead 10 s.next).a), .d (dI (stRead 10 s.next).b), .d (dI (stRead 10 s.next).c), .nil])) := by
  have wm := word_m s hs
  have h0 := hs.next
  have h1 := h0.num
  have h2 := h1.num
  have g1 := h0.node
  refine mcall_of av_ok Tryd.func109 rfl Tryd.call109 Tryd.ntmps109 (congrArg Array.toList Tryd.results109) rfl fun S pv => ?_; conv => whnf
  repeat' (first | (refine AWP.seq ?_) | (refine AWP.region av_ok ?_; conv => whnf) | (refine AWP.ret ?_; conv => whnf) | (refine AWP.skip ?_; conv => whnf) | (refine AWP.exit ?_; conv => whnf) | (refine AWP.block ?_; conv => whnf) | (refine AWP.cond ?_; conv => whnf) | (refine AB.tt ?_; conv => whnf) | (refine AB.ff ?_; conv => whnf) | (refine AB.ofT (by assumption) ?_; conv => whnf) | (refine AB.ofF (by assumption) ?_; conv => whnf) | (refine ACall.upd wm 1000 rfl rfl rfl ?_; conv => whnf) | (exact trivial) | (refine And.intro rfl ?_; conv => whnf) | (refine AB.mk (fun h => ?_) (fun h => ?_) <;> (conv => whnf)) | (with_reducible_and_instances rfl) | (exact (rfl : AP.tup _ = AP.tup _)))
  refine AWP.loopS (fun k : Nat => k ≤ 11 ∧ ∀ j : Nat, k < j → j ≤ 11 → kindL j ≠ s.cur) [8, 9, 10, 11, 12, 13, 14, 15, 16, 17, 18, 19, 20, 21] (fun k => []) (fun k => [(9999, .frame (pinsOf [1000]) pv), (1000, s.next.o), (2, .cells 47 [.d (dI 0), .d (dI 0), .d (dI 0), .d (dI 0), .nil]), (4, .cells 47 [.d (dI (k : Int)), .d (dI 0), .d (dI 0), .d (dI 0), .nil])]) (fun k => k) 11 ⟨by omega, fun j h1 h2 => by omega⟩ ?_ (SubO.cons rfl (SubO.cons rfl (SubO.cons rfl (SubO.cons rfl SubO.nil)))) (fun k hR => ?_) <;> (conv => whnf)
  · repeat' (first | exact trivial | (refine And.intro rfl ?_; conv => whnf))
  · obtain ⟨hk, hno⟩ := hR
    repeat' (first | (refine AWP.seq ?_) | (refine AWP.region av_ok ?_; conv => whnf) | (refine AWP.ret ?_; conv => whnf) | (refine AWP.skip ?_; conv => whnf) | (refine AWP.exit ?_; conv => whnf) | (refine AWP.block ?_; conv => whnf) | (refine AWP.cond ?_; conv => whnf) | (refine AB.tt ?_; conv => whnf) | (refine AB.ff ?_; conv => whnf) | (refine AB.ofT (by assumption) ?_; conv => whnf) | (refine AB.ofF (by assumption) ?_; conv => whnf) | (refine And.intro rfl ?_; conv => whnf))
    refine AB.mk (fun h => ?_) (fun h => ?_) <;> (conv => whnf)
    · repeat' (first | (refine AWP.seq ?_) | (refine AWP.region av_ok ?_; conv => whnf) | (refine AWP.ret ?_; conv => whnf) | (refine AWP.skip ?_; conv => whnf) | (refine AWP.exit ?_; conv => whnf) | (refine AWP.block ?_; conv => whnf) | (refine AWP.cond ?_; conv => whnf) | (refine AB.tt ?_; conv => whnf) | (refine AB.ff ?_; conv => whnf) | (refine AB.ofT (by assumption) ?_; conv => whnf) | (refine AB.ofF (by assumption) ?_; conv => whnf) | (refine ACall.pure (istepWord_p (k : Int) (by simp only [decide_eq_true_eq, decide_eq_false_iff_not, List.length_map, Bool.not_eq_true', Bool.not_eq_false'] at *; omega) (by simp only [decide_eq_true_eq, decide_eq_false_iff_not, List.length_map, Bool.not_eq_true', Bool.not_eq_false'] at *; omega)) rfl ?_; conv => whnf) | (refine And.intro rfl ?_; conv => whnf))
      refine AB.mk (fun h2 => ?_) (fun h2 => ?_) <;> (conv => whnf)
      · have hk1 : 1 ≤ k := (by simp only [decide_eq_true_eq, decide_eq_false_iff_not, List.length_map, Bool.not_eq_true', Bool.not_eq_false'] at *; omega)
        have hne : kindL k ≠ s.cur := by rw [str_dec] at h2; simpa using h2
        repeat' (first | (refine AWP.seq ?_) | (refine AWP.region av_ok ?_; conv => whnf) | (refine AWP.ret ?_; conv => whnf) | (refine AWP.skip ?_; conv => whnf) | (refine AWP.exit ?_; conv => whnf) | (refine AWP.block ?_; conv => whnf) | (refine AWP.cond ?_; conv => whnf) | (refine AB.tt ?_; conv => whnf) | (refine AB.ff ?_; conv => whnf) | (refine AB.ofT (by assumption) ?_; conv => whnf) | (refine AB.ofF (by assumption) ?_; conv => whnf) | (refine AW.as ((k - 1 : Nat) : Int) (by rw [wrap_i64_of (by omega) (by omega)]; omega) ?_; conv => whnf) | (refine And.intro rfl ?_; conv => whnf))
        refine ANext.mk ⟨k - 1, ⟨by omega, fun j h1 h2 => ?_⟩, by omega, ?_, SubO.cons rfl (SubO.cons rfl (SubO.cons rfl (SubO.cons rfl SubO.nil)))⟩
        · by_cases hjk : j = k
          · subst hjk; exact hne
          · exact hno j (by omega) h2
        · (conv => whnf); repeat' (first | exact trivial | (refine ⟨rfl, ?_⟩; conv => whnf))
      · have heq : kindL k = s.cur := by rw [str_dec] at h2; simpa using h2
        have hkk : k = 10 := by have := implKind_of hk hno (.inr heq); omega
        subst hkk
        clear h h2 hno
        repeat' (first | (refine AWP.seq ?_) | (refine AWP.region av_ok ?_; conv => whnf) | (refine AWP.ret ?_; conv => whnf) | (refine AWP.skip ?_; conv => whnf) | (refine AWP.exit ?_; conv => whnf) | (refine AWP.block ?_; conv => whnf) | (refine AWP.cond ?_; conv => whnf) | (refine AB.tt ?_; conv => whnf) | (refine AB.ff ?_; conv => whnf) | (refine AB.ofT (by assumption) ?_; conv => whnf) | (refine AB.ofF (by assumption) ?_; conv => whnf) | (refine AB.ofT (by decide) ?_; conv => whnf) | (refine AB.ofF (by decide) ?_; conv => whnf) | (refine ACall.upd (number_m _ h0) 1000 rfl rfl rfl ?_; conv => whnf) | (refine ACall.upd (number_m _ h1) 1000 rfl rfl rfl ?_; conv => whnf) | (refine ACall.upd (number_m _ h2) 1000 rfl rfl rfl ?_; conv => whnf) | (refine ACall.upd (node_m _ h0) 1000 rfl rfl rfl ?_; conv => whnf) | (refine ACall.upd (number_m _ g1) 1000 rfl rfl rfl ?_; conv => whnf) | (refine ACall.upd (node_m _ g1) 1000 rfl rfl rfl ?_; conv => whnf) | (exact trivial) | (refine And.intro rfl ?_; conv => whnf))
    · have hkk : k = 10 := by have := implKind_of hk hno (.inl (by simp only [decide_eq_true_eq, decide_eq_false_iff_not, List.length_map, Bool.not_eq_true', Bool.not_eq_false'] at *; omega)); omega
      subst hkk
      clear hno
      repeat' (first | (refine AWP.seq ?_) | (refine AWP.region av_ok ?_; conv => whnf) | (refine AWP.ret ?_; conv => whnf) | (refine AWP.skip ?_; conv => whnf) | (refine AWP.exit ?_; conv => whnf) | (refine AWP.block ?_; conv => whnf) | (refine AWP.cond ?_; conv => whnf) | (refine AB.tt ?_; conv => whnf) | (refine AB.ff ?_; conv => whnf) | (refine AB.ofT (by assumption) ?_; conv => whnf) | (refine AB.ofF (by assumption) ?_; conv => whnf) | (refine AB.ofT (by decide) ?_; conv => whnf) | (refine AB.ofF (by decide) ?_; conv => whnf) | (refine ACall.upd (number_m _ h0) 1000 rfl rfl rfl ?_; conv => whnf) | (refine ACall.upd (number_m _ h1) 1000 rfl rfl rfl ?_; conv => whnf) | (refine ACall.upd (number_m _ h2) 1000 rfl rfl rfl ?_; conv => whnf) | (refine ACall.upd (node_m _ h0) 1000 rfl rfl rfl ?_; conv => whnf) | (refine ACall.upd (number_m _ g1) 1000 rfl rfl rfl ?_; conv => whnf) | (refine ACall.upd (node_m _ g1) 1000 rfl rfl rfl ?_; conv => whnf) | (exact trivial) | (refine And.intro rfl ?_; conv => whnf))
theorem step_m11 (s : Sc) (hs : s.ok) (hkd : implKind s.cur = 11) : MCall av 109 [.one (.ref 1000 0 0 0)] [(1000, s.o)] [(1000, (stRead 11 s.next).s.o)] [1000] (.val (.agg [.d (dI 11), .d (dI (stRead 11 s.next).a), .d (dI (stRead 11 s.next).b), .d (dI (stRead 11 s.next).c), .nil])) := by
  have wm := word_m s hs
  have h0 := hs.next
  have h1 := h0.num
  have h2 := h1.num
  have g1 := h0.node
  refine mcall_of av_ok Tryd.func109 rfl Tryd.call109 Tryd.ntmps109 (congrArg Array.toList Tryd.results109) rfl fun S pv => ?_; conv => whnf
  repeat' (first | (refine AWP.seq ?_) | (refine AWP.region av_ok ?_; conv => whnf) | (refine AWP.ret ?_; conv => whnf) | (refine AWP.skip ?_; conv => whnf) | (refine AWP.exit ?_; conv => whnf) | (refine AWP.block ?_; conv => whnf) | (refine AWP.cond ?_; conv => whnf) | (refine AB.tt ?_; conv => whnf) | (refine AB.ff ?_; conv => whnf) | (refine AB.ofT (by assumption) ?_; conv => whnf) | (refine AB.ofF (by assumption) ?_; conv => whnf) | (refine ACall.upd wm 1000 rfl rfl rfl ?_; conv => whnf) | (exact trivial) | (refine And.intro rfl ?_; conv => whnf) | (refine AB.mk (fun h => ?_) (fun h => ?_) <;> (conv => whnf)) | (with_reducible_and_instances rfl) | (exact (rfl : AP.tup _ = AP.tup _)))
  refine AWP.loopS (fun k : Nat => k ≤ 11 ∧ ∀ j : Nat, k < j → j ≤ 11 → kindL j ≠ s.cur) [8, 9, 10, 11, 12, 13, 14, 15, 16, 17, 18, 19, 20, 21] (fun k => []) (fun k => [(9999, .frame (pinsOf [1000]) pv), (1000, s.next.o), (2, .cells 47 [.d (dI 0), .d (dI 0), .d (dI 0), .d (dI 0), .nil]), (4, .cells 47 [.d (dI (k : Int)), .d (dI 0), .d (dI 0), .d (dI 0), .nil])]) (fun k => k) 11 ⟨by omega, fun j h1 h2 => by omega⟩ ?_ (SubO.cons rfl (SubO.cons rfl (SubO.cons rfl (SubO.cons rfl SubO.nil)))) (fun k hR => ?_) <;> (conv => whnf)
  · repeat' (first | exact trivial | (refine And.intro rfl ?_; conv => whnf))
  · obtain ⟨hk, hno⟩ := hR
    repeat' (first | (refine AWP.seq ?_) | (refine AWP.region av_ok ?_; conv => whnf) | (refine AWP.ret ?_; conv => whnf) | (refine AWP.skip ?_; conv => whnf) | (refine AWP.exit ?_; conv => whnf) | (refine AWP.block ?_; conv => whnf) | (refine AWP.cond ?_; conv => whnf) | (refine AB.tt ?_; conv => whnf) | (refine AB.ff ?_; conv => whnf) | (refine AB.ofT (by assumption) ?_; conv => whnf) | (refine AB.ofF (by assumption) ?_; conv => whnf) | (refine And.intro rfl ?_; conv => whnf))
    refine AB.mk (fun h => ?_) (fun h => ?_) <;> (conv => whnf)
    · repeat' (first | (refine AWP.seq ?_) | (refine AWP.region av_ok ?_; conv => whnf) | (refine AWP.ret ?_; conv => whnf) | (refine AWP.skip ?_; conv => whnf) | (refine AWP.exit ?_; conv => whnf) | (refine AWP.block ?_; conv => whnf) | (refine AWP.cond ?_; conv => whnf) | (refine AB.tt ?_; conv => whnf) | (refine AB.ff ?_; conv => whnf) | (refine AB.ofT (by assumption) ?_; conv => whnf) | (refine AB.ofF (by assumption) ?_; conv => whnf) | (refine ACall.pure (istepWord_p (k : Int) (by simp only [decide_eq_true_eq, decide_eq_false_iff_not, List.length_map, Bool.not_eq_true', Bool.not_eq_false'] at *; omega) (by simp only [decide_eq_true_eq, decide_eq_false_iff_not, List.length_map, Bool.not_eq_true', Bool.not_eq_false'] at *; omega)) rfl ?_; conv => whnf) | (refine And.intro rfl ?_; conv => whnf))
      refine AB.mk (fun h2 => ?_) (fun h2 => ?_) <;> (conv => whnf)
      · have hk1 : 1 ≤ k := (by simp only [decide_eq_true_eq, decide_eq_false_iff_not, List.length_map, Bool.not_eq_true', Bool.not_eq_false'] at *; omega)
        have hne : kindL k ≠ s.cur := by rw [str_dec] at h2; simpa using h2
        repeat' (first | (refine AWP.seq ?_) | (refine AWP.region av_ok ?_; conv => whnf) | (refine AWP.ret ?_; conv => whnf) | (refine AWP.skip ?_; conv => whnf) | (refine AWP.exit ?_; conv => whnf) | (refine AWP.block ?_; conv => whnf) | (refine AWP.cond ?_; conv => whnf) | (refine AB.tt ?_; conv => whnf) | (refine AB.ff ?_; conv => whnf) | (refine AB.ofT (by assumption) ?_; conv => whnf) | (refine AB.ofF (by assumption) ?_; conv => whnf) | (refine AW.as ((k - 1 : Nat) : Int) (by rw [wrap_i64_of (by omega) (by omega)]; omega) ?_; conv => whnf) | (refine And.intro rfl ?_; conv => whnf))
        refine ANext.mk ⟨k - 1, ⟨by omega, fun j h1 h2 => ?_⟩, by omega, ?_, SubO.cons rfl (SubO.cons rfl (SubO.cons rfl (SubO.cons rfl SubO.nil)))⟩
        · by_cases hjk : j = k
          · subst hjk; exact hne
          · exact hno j (by omega) h2
        · (conv => whnf); repeat' (first | exact trivial | (refine ⟨rfl, ?_⟩; conv => whnf))
      · have heq : kindL k = s.cur := by rw [str_dec] at h2; simpa using h2
        have hkk : k = 11 := by have := implKind_of hk hno (.inr heq); omega
        subst hkk
        clear h h2 hno
        repeat' (first | (refine AWP.seq ?_) | (refine AWP.region av_ok ?_; conv => whnf) | (refine AWP.ret ?_; conv => whnf) | (refine AWP.skip ?_; conv => whnf) | (refine AWP.exit ?_; conv => whnf) | (refine AWP.block ?_; conv => whnf) | (refine AWP.cond ?_; conv => whnf) | (refine AB.tt ?_; conv => whnf) | (refine AB.ff ?_; conv => whnf) | (refine AB.ofT (by assumption) ?_; conv => whnf) | (refine AB.ofF (by assumption) ?_; conv => whnf) | (refine AB.ofT (by decide) ?_; conv => whnf) | (refine AB.ofF (by decide) ?_; conv => whnf) | (refine ACall.upd (number_m _ h0) 1000 rfl rfl rfl ?_; conv => whnf) | (refine ACall.upd (number_m _ h1) 1000 rfl rfl rfl ?_; conv => whnf) | (refine ACall.upd (number_m _ h2) 1000 rfl rfl rfl ?_; conv => whnf) | (refine ACall.upd (node_m _ h0) 1000 rfl rfl rfl ?_; conv => whnf) | (refine ACall.upd (number_m _ g1) 1000 rfl rfl rfl ?_; conv => whnf) | (refine ACall.upd (node_m _ g1) 1000 rfl rfl rfl ?_; conv => whnf) | (exact trivial) | (refine And.intro rfl ?_; conv => whnf))
    · have hkk : k = 11 := by have := implKind_of hk hno (.inl (by simp only [decide_eq_true_eq, decide_eq_false_iff_not, List.length_map, Bool.not_eq_true', Bool.not_eq_false'] at *; omega)); omega
      subst hkk
      clear hno
      repeat' (first | (refine AWP.seq ?_) | (refine AWP.region av_ok ?_; conv => whnf) | (refine AWP.ret ?_; conv => whnf) | (refine AWP.skip ?_; conv => whnf) | (refine AWP.exit ?_; conv => whnf) | (refine AWP.block ?_; conv => whnf) | (refine AWP.cond ?_; conv => whnf) | (refine AB.tt ?_; conv => whnf) | (refine AB.ff ?_; conv => whnf) | (refine AB.ofT (by assumption) ?_; conv => whnf) | (refine AB.ofF (by assumption) ?_; conv => whnf) | (refine AB.ofT (by decide) ?_; conv => whnf) | (refine AB.ofF (by decide) ?_; conv => whnf) | (refine ACall.upd (number_m _ h0) 1000 rfl rfl rfl ?_; conv => whnf) | (refine ACall.upd (number_m _ h1) 1000 rfl rfl rfl ?_; conv => whnf) | (refine ACall.upd (number_m _ h2) 1000 rfl rfl rfl ?_; conv => whnf) | (refine ACall.upd (node_m _ h0) 1000 rfl rfl rfl ?_; conv => whnf) | (refine ACall.upd (number_m _ g1) 1000 rfl rfl rfl ?_; conv => whnf) | (refine ACall.upd (node_m _ g1) 1000 rfl rfl rfl ?_; conv => whnf) | (exact trivial) | (refine And.intro rfl ?_; conv => whnf))
theorem step_m5a (s : Sc) (hs : s.ok) (hkd : implKind s.cur = 5) (hd : (scNode s.next).2.ws = []) : MCall av 109 [.one (.ref 1000 0 0 0)] [(1000, s.o)] [(1000, (scNode s.next).2.o)] [1000] (.val (.agg [.d (dI 5), .d (dI (scNode s.next).1), .d (dI 0), .d (dI 0), .nil])) := by
  have wm := word_m s hs
  have h0 := hs.next
  have h1 := h0.num
  have h2 := h1.num
  have g1 := h0.node
  have fm := fates_m0 _ hd
  refine mcall_of av_ok Tryd.func109 rfl Tryd.call109 Tryd.ntmps109 (congrArg Array.toList Tryd.results109) rfl fun S pv => ?_; conv => whnf
  repeat' (first | (refine AWP.seq ?_) | (refine AWP.region av_ok ?_; conv => whnf) | (refine AWP.ret ?_; conv => whnf) | (refine AWP.skip ?_; conv => whnf) | (refine AWP.exit ?_; conv => whnf) | (refine AWP.block ?_; conv => whnf) | (refine AWP.cond ?_; conv => whnf) | (refine AB.tt ?_; conv => whnf) | (refine AB.ff ?_; conv => whnf) | (refine AB.ofT (by assumption) ?_; conv => whnf) | (refine AB.ofF (by assumption) ?_; conv => whnf) | (refine ACall.upd wm 1000 rfl rfl rfl ?_; conv => whnf) | (exact trivial) | (refine And.intro rfl ?_; conv => whnf) | (refine AB.mk (fun h => ?_) (fun h => ?_) <;> (conv => whnf)) | (with_reducible_and_instances rfl) | (exact (rfl : AP.tup _ = AP.tup _)))
  refine AWP.loopS (fun k : Nat => k ≤ 11 ∧ ∀ j : Nat, k < j → j ≤ 11 → kindL j ≠ s.cur) [8, 9, 10, 11, 12, 13, 14, 15, 16, 17, 18, 19, 20, 21] (fun k => []) (fun k => [(9999, .frame (pinsOf [1000]) pv), (1000, s.next.o), (2, .cells 47 [.d (dI 0), .d (dI 0), .d (dI 0), .d (dI 0), .nil]), (4, .cells 47 [.d (dI (k : Int)), .d (dI 0), .d (dI 0), .d (dI 0), .nil])]) (fun k => k) 11 ⟨by omega, fun j h1 h2 => by omega⟩ ?_ (SubO.cons rfl (SubO.cons rfl (SubO.cons rfl (SubO.cons rfl SubO.nil)))) (fun k hR => ?_) <;> (conv => whnf)
  · repeat' (first | exact trivial | (refine And.intro rfl ?_; conv => whnf))
  · obtain ⟨hk, hno⟩ := hR
    repeat' (first | (refine AWP.seq ?_) | (refine AWP.region av_ok ?_; conv => whnf) | (refine AWP.ret ?_; conv => whnf) | (refine AWP.skip ?_; conv => whnf) | (refine AWP.exit ?_; conv => whnf) | (refine AWP.block ?_; conv => whnf) | (refine AWP.cond ?_; conv => whnf) | (refine AB.tt ?_; conv => whnf) | (refine AB.ff ?_; conv => whnf) | (refine AB.ofT (by assumption) ?_; conv => whnf) | (refine AB.ofF (by assumption) ?_; conv => whnf) | (refine And.intro rfl ?_; conv => whnf))
    refine AB.mk (fun h => ?_) (fun h => ?_) <;> (conv => whnf)
    · repeat' (first | (refine AWP.seq ?_) | (refine AWP.region av_ok ?_; conv => whnf) | (refine AWP.ret ?_; conv => whnf) | (refine AWP.skip ?_; conv => whnf) | (refine AWP.exit ?_; conv => whnf) | (refine AWP.block ?_; conv => whnf) | (refine AWP.cond ?_; conv => whnf) | (refine AB.tt ?_; conv => whnf) | (refine AB.ff ?_; conv => whnf) | (refine AB.ofT (by assumption) ?_; conv => whnf) | (refine AB.ofF (by assumption) ?_; conv => whnf) | (refine ACall.pure (istepWord_p (k : Int) (by simp only [decide_eq_true_eq, decide_eq_false_iff_not, List.length_map, Bool.not_eq_true', Bool.not_eq_false'] at *; omega) (by simp only [decide_eq_true_eq, decide_eq_false_iff_not, List.length_map, Bool.not_eq_true', Bool.not_eq_false'] at *; omega)) rfl ?_; conv => whnf) | (refine And.intro rfl ?_; conv => whnf))
      refine AB.mk (fun h2 => ?_) (fun h2 => ?_) <;> (conv => whnf)
      · have hk1 : 1 ≤ k := (by simp only [decide_eq_true_eq, decide_eq_false_iff_not, List.length_map, Bool.not_eq_true', Bool.not_eq_false'] at *; omega)
        have hne : kindL k ≠ s.cur := by rw [str_dec] at h2; simpa using h2
        repeat' (first | (refine AWP.seq ?_) | (refine AWP.region av_ok ?_; conv => whnf) | (refine AWP.ret ?_; conv => whnf) | (refine AWP.skip ?_; conv => whnf) | (refine AWP.exit ?_; conv => whnf) | (refine AWP.block ?_; conv => whnf) | (refine AWP.cond ?_; conv => whnf) | (refine AB.tt ?_; conv => whnf) | (refine AB.ff ?_; conv => whnf) | (refine AB.ofT (by assumption) ?_; conv => whnf) | (refine AB.ofF (by assumption) ?_; conv => whnf) | (refine AW.as ((k - 1 : Nat) : Int) (by rw [wrap_i64_of (by omega) (by omega)]; omega) ?_; conv => whnf) | (refine And.intro rfl ?_; conv => whnf))
        refine ANext.mk ⟨k - 1, ⟨by omega, fun j h1 h2 => ?_⟩, by omega, ?_, SubO.cons rfl (SubO.cons rfl (SubO.cons rfl (SubO.cons rfl SubO.nil)))⟩
        · by_cases hjk : j = k
          · subst hjk; exact hne
          · exact hno j (by omega) h2
        · (conv => whnf); repeat' (first | exact trivial | (refine ⟨rfl, ?_⟩; conv => whnf))
      · have heq : kindL k = s.cur := by rw [str_dec] at h2; simpa using h2
        have hkk : k = 5 := by have := implKind_of hk hno (.inr heq); omega
        subst hkk
        clear h h2 hno
        repeat' (first | (refine AWP.seq ?_) | (refine AWP.region av_ok ?_; conv => whnf) | (refine AWP.ret ?_; conv => whnf) | (refine AWP.skip ?_; conv => whnf) | (refine AWP.exit ?_; conv => whnf) | (refine AWP.block ?_; conv => whnf) | (refine AWP.cond ?_; conv => whnf) | (refine AB.tt ?_; conv => whnf) | (refine AB.ff ?_; conv => whnf) | (refine AB.ofT (by assumption) ?_; conv => whnf) | (refine AB.ofF (by assumption) ?_; conv => whnf) | (refine AB.ofT (by decide) ?_; conv => whnf) | (refine AB.ofF (by decide) ?_; conv => whnf) | (refine ACall.upd (number_m _ h0) 1000 rfl rfl rfl ?_; conv => whnf) | (refine ACall.upd (number_m _ h1) 1000 rfl rfl rfl ?_; conv => whnf) | (refine ACall.upd (number_m _ h2) 1000 rfl rfl rfl ?_; conv => whnf) | (refine ACall.upd (node_m _ h0) 1000 rfl rfl rfl ?_; conv => whnf) | (refine ACall.upd (number_m _ g1) 1000 rfl rfl rfl ?_; conv => whnf) | (refine ACall.upd (node_m _ g1) 1000 rfl rfl rfl ?_; conv => whnf) | (refine ACall.upd fm 1000 rfl rfl rfl ?_; conv => whnf) | (exact trivial) | (refine And.intro rfl ?_; conv => whnf))
    · have hkk : k = 5 := by have := implKind_of hk hno (.inl (by simp only [decide_eq_true_eq, decide_eq_false_iff_not, List.length_map, Bool.not_eq_true', Bool.not_eq_false'] at *; omega)); omega
      subst hkk
      clear hno
      repeat' (first | (refine AWP.seq ?_) | (refine AWP.region av_ok ?_; conv => whnf) | (refine AWP.ret ?_; conv => whnf) | (refine AWP.skip ?_; conv => whnf) | (refine AWP.exit ?_; conv => whnf) | (refine AWP.block ?_; conv => whnf) | (refine AWP.cond ?_; conv => whnf) | (refine AB.tt ?_; conv => whnf) | (refine AB.ff ?_; conv => whnf) | (refine AB.ofT (by assumption) ?_; conv => whnf) | (refine AB.ofF (by assumption) ?_; conv => whnf) | (refine AB.ofT (by decide) ?_; conv => whnf) | (refine AB.ofF (by decide) ?_; conv => whnf) | (refine ACall.upd (number_m _ h0) 1000 rfl rfl rfl ?_; conv => whnf) | (refine ACall.upd (number_m _ h1) 1000 rfl rfl rfl ?_; conv => whnf) | (refine ACall.upd (number_m _ h2) 1000 rfl rfl rfl ?_; conv => whnf) | (refine ACall.upd (node_m _ h0) 1000 rfl rfl rfl ?_; conv => whnf) | (refine ACall.upd (number_m _ g1) 1000 rfl rfl rfl ?_; conv => whnf) | (refine ACall.upd (node_m _ g1) 1000 rfl rfl rfl ?_; conv => whnf) | (refine ACall.upd fm 1000 rfl rfl rfl ?_; conv => whnf) | (exact trivial) | (refine And.intro rfl ?_; conv => whnf))
theorem step_m5b (s : Sc) (hs : s.ok) (hkd : implKind s.cur = 5) (hd : (scNode s.next).2.ws ≠ []) : MCall av 109 [.one (.ref 1000 0 0 0)] [(1000, s.o)] [(1000, (scFates (scNode s.next).2).o), (900, .row 2 1 ((fatesOf (scNode s.next).2.cur).map eI))] [1000] (.val (.agg [.d (dI 5), .d (dI (scNode s.next).1), .d (dI 0), .d (dI 0), .own 900])) := by
  have wm := word_m s hs
  have h0 := hs.next
  have h1 := h0.num
  have h2 := h1.num
  have g1 := h0.node
  have fm := fates_m1 _ g1 hd
  refine mcall_of av_ok Tryd.func109 rfl Tryd.call109 Tryd.ntmps109 (congrArg Array.toList Tryd.results109) rfl fun S pv => ?_; conv => whnf
  repeat' (first | (refine AWP.seq ?_) | (refine AWP.region av_ok ?_; conv => whnf) | (refine AWP.ret ?_; conv => whnf) | (refine AWP.skip ?_; conv => whnf) | (refine AWP.exit ?_; conv => whnf) | (refine AWP.block ?_; conv => whnf) | (refine AWP.cond ?_; conv => whnf) | (refine AB.tt ?_; conv => whnf) | (refine AB.ff ?_; conv => whnf) | (refine AB.ofT (by assumption) ?_; conv => whnf) | (refine AB.ofF (by assumption) ?_; conv => whnf) | (refine ACall.upd wm 1000 rfl rfl rfl ?_; conv => whnf) | (exact trivial) | (refine And.intro rfl ?_; conv => whnf) | (refine AB.mk (fun h => ?_) (fun h => ?_) <;> (conv => whnf)) | (with_reducible_and_instances rfl) | (exact (rfl : AP.tup _ = AP.tup _)))
  refine AWP.loopS (fun k : Nat => k ≤ 11 ∧ ∀ j : Nat, k < j → j ≤ 11 → kindL j ≠ s.cur) [8, 9, 10, 11, 12, 13, 14, 15, 16, 17, 18, 19, 20, 21] (fun k => []) (fun k => [(9999, .frame (pinsOf [1000]) pv), (1000, s.next.o), (2, .cells 47 [.d (dI 0), .d (dI 0), .d (dI 0), .d (dI 0), .nil]), (4, .cells 47 [.d (dI (k : Int)), .d (dI 0), .d (dI 0), .d (dI 0), .nil])]) (fun k => k) 11 ⟨by omega, fun j h1 h2 => by omega⟩ ?_ (SubO.cons rfl (SubO.cons rfl (SubO.cons rfl (SubO.cons rfl SubO.nil)))) (fun k hR => ?_) <;> (conv => whnf)
  · repeat' (first | exact trivial | (refine And.intro rfl ?_; conv => whnf))
  · obtain ⟨hk, hno⟩ := hR
    repeat' (first | (refine AWP.seq ?_) | (refine AWP.region av_ok ?_; conv => whnf) | (refine AWP.ret ?_; conv => whnf) | (refine AWP.skip ?_; conv => whnf) | (refine AWP.exit ?_; conv => whnf) | (refine AWP.block ?_; conv => whnf) | (refine AWP.cond ?_; conv => whnf) | (refine AB.tt ?_; conv => whnf) | (refine AB.ff ?_; conv => whnf) | (refine AB.ofT (by assumption) ?_; conv => whnf) | (refine AB.ofF (by assumption) ?_; conv => whnf) | (refine And.intro rfl ?_; conv => whnf))
    refine AB.mk (fun h => ?_) (fun h => ?_) <;> (conv => whnf)
    · repeat' (first | (refine AWP.seq ?_) | (refine AWP.region av_ok ?_; conv => whnf) | (refine AWP.ret ?_; conv => whnf) | (refine AWP.skip ?_; conv => whnf) | (refine AWP.exit ?_; conv => whnf) | (refine AWP.block ?_; conv => whnf) | (refine AWP.cond ?_; conv => whnf) | (refine AB.tt ?_; conv => whnf) | (refine AB.ff ?_; conv => whnf) | (refine AB.ofT (by assumption) ?_; conv => whnf) | (refine AB.ofF (by assumption) ?_; conv => whnf) | (refine ACall.pure (istepWord_p (k : Int) (by simp only [decide_eq_true_eq, decide_eq_false_iff_not, List.length_map, Bool.not_eq_true', Bool.not_eq_false'] at *; omega) (by simp only [decide_eq_true_eq, decide_eq_false_iff_not, List.length_map, Bool.not_eq_true', Bool.not_eq_false'] at *; omega)) rfl ?_; conv => whnf) | (refine And.intro rfl ?_; conv => whnf))
      refine AB.mk (fun h2 => ?_) (fun h2 => ?_) <;> (conv => whnf)
      · have hk1 : 1 ≤ k := (by simp only [decide_eq_true_eq, decide_eq_false_iff_not, List.length_map, Bool.not_eq_true', Bool.not_eq_false'] at *; omega)
        have hne : kindL k ≠ s.cur := by rw [str_dec] at h2; simpa using h2
        repeat' (first | (refine AWP.seq ?_) | (refine AWP.region av_ok ?_; conv => whnf) | (refine AWP.ret ?_; conv => whnf) | (refine AWP.skip ?_; conv => whnf) | (refine AWP.exit ?_; conv => whnf) | (refine AWP.block ?_; conv => whnf) | (refine AWP.cond ?_; conv => whnf) | (refine AB.tt ?_; conv => whnf) | (refine AB.ff ?_; conv => whnf) | (refine AB.ofT (by assumption) ?_; conv => whnf) | (refine AB.ofF (by assumption) ?_; conv => whnf) | (refine AW.as ((k - 1 : Nat) : Int) (by rw [wrap_i64_of (by omega) (by omega)]; omega) ?_; conv => whnf) | (refine And.intro rfl ?_; conv => whnf))
        refine ANext.mk ⟨k - 1, ⟨by omega, fun j h1 h2 => ?_⟩, by omega, ?_, SubO.cons rfl (SubO.cons rfl (SubO.cons rfl (SubO.cons rfl SubO.nil)))⟩
        · by_cases hjk : j = k
          · subst hjk; exact hne
          · exact hno j (by omega) h2
        · (conv => whnf); repeat' (first | exact trivial | (refine ⟨rfl, ?_⟩; conv => whnf))
      · have heq : kindL k = s.cur := by rw [str_dec] at h2; simpa using h2
        have hkk : k = 5 := by have := implKind_of hk hno (.inr heq); omega
        subst hkk
        clear h h2 hno
        repeat' (first | (refine AWP.seq ?_) | (refine AWP.region av_ok ?_; conv => whnf) | (refine AWP.ret ?_; conv => whnf) | (refine AWP.skip ?_; conv => whnf) | (refine AWP.exit ?_; conv => whnf) | (refine AWP.block ?_; conv => whnf) | (refine AWP.cond ?_; conv => whnf) | (refine AB.tt ?_; conv => whnf) | (refine AB.ff ?_; conv => whnf) | (refine AB.ofT (by assumption) ?_; conv => whnf) | (refine AB.ofF (by assumption) ?_; conv => whnf) | (refine AB.ofT (by decide) ?_; conv => whnf) | (refine AB.ofF (by decide) ?_; conv => whnf) | (refine ACall.upd (number_m _ h0) 1000 rfl rfl rfl ?_; conv => whnf) | (refine ACall.upd (number_m _ h1) 1000 rfl rfl rfl ?_; conv => whnf) | (refine ACall.upd (number_m _ h2) 1000 rfl rfl rfl ?_; conv => whnf) | (refine ACall.upd (node_m _ h0) 1000 rfl rfl rfl ?_; conv => whnf) | (refine ACall.upd (number_m _ g1) 1000 rfl rfl rfl ?_; conv => whnf) | (refine ACall.upd (node_m _ g1) 1000 rfl rfl rfl ?_; conv => whnf) | (refine ACall.meth fm [(1000, 1000), (12, 900)] rfl rfl ?_; (conv => whnf); refine And.intro rfl ?_; conv => whnf) | (exact trivial) | (refine And.intro rfl ?_; conv => whnf))
    · have hkk : k = 5 := by have := implKind_of hk hno (.inl (by simp only [decide_eq_true_eq, decide_eq_false_iff_not, List.length_map, Bool.not_eq_true', Bool.not_eq_false'] at *; omega)); omega
      subst hkk
      clear hno
      repeat' (first | (refine AWP.seq ?_) | (refine AWP.region av_ok ?_; conv => whnf) | (refine AWP.ret ?_; conv => whnf) | (refine AWP.skip ?_; conv => whnf) | (refine AWP.exit ?_; conv => whnf) | (refine AWP.block ?_; conv => whnf) | (refine AWP.cond ?_; conv => whnf) | (refine AB.tt ?_; conv => whnf) | (refine AB.ff ?_; conv => whnf) | (refine AB.ofT (by assumption) ?_; conv => whnf) | (refine AB.ofF (by assumption) ?_; conv => whnf) | (refine AB.ofT (by decide) ?_; conv => whnf) | (refine AB.ofF (by decide) ?_; conv => whnf) | (refine ACall.upd (number_m _ h0) 1000 rfl rfl rfl ?_; conv => whnf) | (refine ACall.upd (number_m _ h1) 1000 rfl rfl rfl ?_; conv => whnf) | (refine ACall.upd (number_m _ h2) 1000 rfl rfl rfl ?_; conv => whnf) | (refine ACall.upd (node_m _ h0) 1000 rfl rfl rfl ?_; conv => whnf) | (refine ACall.upd (number_m _ g1) 1000 rfl rfl rfl ?_; conv => whnf) | (refine ACall.upd (node_m _ g1) 1000 rfl rfl rfl ?_; conv => whnf) | (refine ACall.meth fm [(1000, 1000), (12, 900)] rfl rfl ?_; (conv => whnf); refine And.intro rfl ?_; conv => whnf) | (exact trivial) | (refine And.intro rfl ?_; conv => whnf))
end Go.Proofs.YtlhanpkfnhnegaaDoor
/- TextStep of the program. -/
namespace Go.Proofs.YtlhanpkfnhnegaaDoor
open Go.RowKit

abbrev stpZ : DStep := ⟨0, 0, 0, 0, []⟩
abbrev stAgg (k a b c : Int) (f : AC) : AA := .agg [.d (dI k), .d (dI a), .d (dI b), .d (dI c), f]
theorem textStep_nil (l : List UInt8) (k a b c : Int) (t : Sc) (sm : MCall av 109 [.one (.ref 1000 0 0 0)] [(1000, startO l)] [(1000, t.o)] [1000] (.val (stAgg k a b c .nil))) :
    MCall av 49 [.one (.d (dL l))] [] [] [] (if t.over && stepOk ⟨k, a, b, c, []⟩ then .tup [stAgg k a b c .nil, .one (.d (dB true))] else .tup [stAgg 0 0 0 0 .nil, .one (.d (dB false))]) := by
  have vm := over_m t
  have hov : t.over = (t.ws.isEmpty && !t.bad) := rfl
  rw [← hov] at vm
  clear hov
  cases h1 : t.over with
  | false =>
    have h1' : (!t.over) = true := by rw [h1]; rfl
    simp only [Bool.false_and, Bool.false_eq_true, if_false]
    refine mcall_of av_ok Tryd.func49 rfl Tryd.call49 Tryd.ntmps49 (congrArg Array.toList Tryd.results49) rfl fun S pv => ?_; conv => whnf
    repeat' (first | (refine AWP.seq ?_) | (refine AWP.region av_ok ?_; conv => whnf) | (refine AWP.ret ?_; conv => whnf) | (refine AWP.skip ?_; conv => whnf) | (refine AWP.exit ?_; conv => whnf) | (refine AWP.block ?_; conv => whnf) | (refine AWP.cond ?_; conv => whnf) | (refine AB.tt ?_; conv => whnf) | (refine AB.ff ?_; conv => whnf) | (refine AB.ofT (by assumption) ?_; conv => whnf) | (refine AB.ofF (by assumption) ?_; conv => whnf) | (refine ACall.upd sm 8 rfl rfl rfl ?_; conv => whnf) | (refine ACall.upd vm 8 rfl rfl rfl ?_; conv => whnf) | (exact trivial) | (refine And.intro rfl ?_; conv => whnf) | (refine AB.mk (fun h => ?_) (fun h => ?_) <;> (conv => whnf)) | (with_reducible_and_instances rfl) | (exact (rfl : AP.tup _ = AP.tup _)))
  | true =>
    have h1' : (!t.over) = false := by rw [h1]; rfl
    cases h2 : stepOk ⟨k, a, b, c, []⟩ with
    | false =>
      have h2' : (!stepOk ⟨k, a, b, c, []⟩) = true := by rw [h2]; rfl
      simp only [Bool.and_false, Bool.false_eq_true, if_false]
      refine mcall_of av_ok Tryd.func49 rfl Tryd.call49 Tryd.ntmps49 (congrArg Array.toList Tryd.results49) rfl fun S pv => ?_; conv => whnf
      repeat' (first | (refine AWP.seq ?_) | (refine AWP.region av_ok ?_; conv => whnf) | (refine AWP.ret ?_; conv => whnf) | (refine AWP.skip ?_; conv => whnf) | (refine AWP.exit ?_; conv => whnf) | (refine AWP.block ?_; conv => whnf) | (refine AWP.cond ?_; conv => whnf) | (refine AB.tt ?_; conv => whnf) | (refine AB.ff ?_; conv => whnf) | (refine AB.ofT (by assumption) ?_; conv => whnf) | (refine AB.ofF (by assumption) ?_; conv => whnf) | (refine ACall.upd sm 8 rfl rfl rfl ?_; conv => whnf) | (refine ACall.upd vm 8 rfl rfl rfl ?_; conv => whnf) | (refine ACall.pure (iStepOk_p ⟨k, a, b, c, []⟩) rfl ?_; conv => whnf) | (exact trivial) | (refine And.intro rfl ?_; conv => whnf) | (refine AB.mk (fun h => ?_) (fun h => ?_) <;> (conv => whnf)) | (with_reducible_and_instances rfl) | (exact (rfl : AP.tup _ = AP.tup _)))
    | true =>
      have h2' : (!stepOk ⟨k, a, b, c, []⟩) = false := by rw [h2]; rfl
      simp only [Bool.and_self, if_true]
      refine mcall_of av_ok Tryd.func49 rfl Tryd.call49 Tryd.ntmps49 (congrArg Array.toList Tryd.results49) rfl fun S pv => ?_; conv => whnf
      repeat' (first | (refine AWP.seq ?_) | (refine AWP.region av_ok ?_; conv => whnf) | (refine AWP.ret ?_; conv => whnf) | (refine AWP.skip ?_; conv => whnf) | (refine AWP.exit ?_; conv => whnf) | (refine AWP.block ?_; conv => whnf) | (refine AWP.cond ?_; conv => whnf) | (refine AB.tt ?_; conv => whnf) | (refine AB.ff ?_; conv => whnf) | (refine AB.ofT (by assumption) ?_; conv => whnf) | (refine AB.ofF (by assumption) ?_; conv => whnf) | (refine ACall.upd sm 8 rfl rfl rfl ?_; conv => whnf) | (refine ACall.upd vm 8 rfl rfl rfl ?_; conv => whnf) | (refine ACall.pure (iStepOk_p ⟨k, a, b, c, []⟩) rfl ?_; conv => whnf) | (exact trivial) | (refine And.intro rfl ?_; conv => whnf) | (refine AB.mk (fun h => ?_) (fun h => ?_) <;> (conv => whnf)) | (with_reducible_and_instances rfl) | (exact (rfl : AP.tup _ = AP.tup _)))
theorem textStep_own (l : List UInt8) (k a b c : Int) (f : List Int) (t : Sc) (sm : MCall av 109 [.one (.ref 1000 0 0 0)] [(1000, startO l)] [(1000, t.o), (900, .row 2 1 (f.map eI))] [1000] (.val (stAgg k a b c (.own 900)))) :
    (t.over = true → stepOk ⟨k, a, b, c, f⟩ = true → MCall av 49 [.one (.d (dL l))] [] [(901, .row 2 1 (f.map eI))] [] (.tup [stAgg k a b c (.own 901), .one (.d (dB true))])) ∧
    ((t.over && stepOk ⟨k, a, b, c, f⟩) = false → MCall av 49 [.one (.d (dL l))] [] [] [] (.tup [stAgg 0 0 0 0 .nil, .one (.d (dB false))])) := by
  have vm := over_m t
  have hov : t.over = (t.ws.isEmpty && !t.bad) := rfl
  rw [← hov] at vm
  clear hov
  refine ⟨fun h1 h2 => ?_, fun h => ?_⟩
  · have h1' : (!t.over) = false := by rw [h1]; rfl
    have h2' : (!stepOk ⟨k, a, b, c, f⟩) = false := by rw [h2]; rfl
    refine mcall_of av_ok Tryd.func49 rfl Tryd.call49 Tryd.ntmps49 (congrArg Array.toList Tryd.results49) rfl fun S pv => ?_; conv => whnf
    repeat' (first | (refine AWP.seq ?_) | (refine AWP.region av_ok ?_; conv => whnf) | (refine AWP.ret ?_; conv => whnf) | (refine AWP.skip ?_; conv => whnf) | (refine AWP.exit ?_; conv => whnf) | (refine AWP.block ?_; conv => whnf) | (refine AWP.cond ?_; conv => whnf) | (refine AB.tt ?_; conv => whnf) | (refine AB.ff ?_; conv => whnf) | (refine AB.ofT (by assumption) ?_; conv => whnf) | (refine AB.ofF (by assumption) ?_; conv => whnf) | (refine ACall.meth sm [(1000, 8), (900, 901)] rfl rfl ?_; (conv => whnf); refine And.intro rfl ?_; conv => whnf) | (refine ACall.upd vm 8 rfl rfl rfl ?_; conv => whnf) | (refine ACall.scalar (iStepOk_p ⟨k, a, b, c, f⟩) rfl rfl ?_; conv => whnf) | (exact trivial) | (refine And.intro rfl ?_; conv => whnf) | (refine AB.mk (fun h => ?_) (fun h => ?_) <;> (conv => whnf)) | (with_reducible_and_instances rfl) | (exact (rfl : AP.tup _ = AP.tup _)))
  · cases h1 : t.over with
    | false =>
      have h1' : (!t.over) = true := by rw [h1]; rfl
      refine mcall_of av_ok Tryd.func49 rfl Tryd.call49 Tryd.ntmps49 (congrArg Array.toList Tryd.results49) rfl fun S pv => ?_; conv => whnf
      repeat' (first | (refine AWP.seq ?_) | (refine AWP.region av_ok ?_; conv => whnf) | (refine AWP.ret ?_; conv => whnf) | (refine AWP.skip ?_; conv => whnf) | (refine AWP.exit ?_; conv => whnf) | (refine AWP.block ?_; conv => whnf) | (refine AWP.cond ?_; conv => whnf) | (refine AB.tt ?_; conv => whnf) | (refine AB.ff ?_; conv => whnf) | (refine AB.ofT (by assumption) ?_; conv => whnf) | (refine AB.ofF (by assumption) ?_; conv => whnf) | (refine ACall.meth sm [(1000, 8), (900, 901)] rfl rfl ?_; (conv => whnf); refine And.intro rfl ?_; conv => whnf) | (refine ACall.upd vm 8 rfl rfl rfl ?_; conv => whnf) | (exact trivial) | (refine And.intro rfl ?_; conv => whnf) | (refine AB.mk (fun h => ?_) (fun h => ?_) <;> (conv => whnf)) | (with_reducible_and_instances rfl) | (exact (rfl : AP.tup _ = AP.tup _)))
    | true =>
      have h2 : stepOk ⟨k, a, b, c, f⟩ = false := by rw [h1] at h; simpa using h
      have h1' : (!t.over) = false := by rw [h1]; rfl
      have h2' : (!stepOk ⟨k, a, b, c, f⟩) = true := by rw [h2]; rfl
      refine mcall_of av_ok Tryd.func49 rfl Tryd.call49 Tryd.ntmps49 (congrArg Array.toList Tryd.results49) rfl fun S pv => ?_; conv => whnf
      repeat' (first | (refine AWP.seq ?_) | (refine AWP.region av_ok ?_; conv => whnf) | (refine AWP.ret ?_; conv => whnf) | (refine AWP.skip ?_; conv => whnf) | (refine AWP.exit ?_; conv => whnf) | (refine AWP.block ?_; conv => whnf) | (refine AWP.cond ?_; conv => whnf) | (refine AB.tt ?_; conv => whnf) | (refine AB.ff ?_; conv => whnf) | (refine AB.ofT (by assumption) ?_; conv => whnf) | (refine AB.ofF (by assumption) ?_; conv => whnf) | (refine ACall.meth sm [(1000, 8), (900, 901)] rfl rfl ?_; (conv => whnf); refine And.intro rfl ?_; conv => whnf) | (refine ACall.upd vm 8 rfl rfl rfl ?_; conv => whnf) | (refine ACall.scalar (iStepOk_p ⟨k, a, b, c, f⟩) rfl rfl ?_; conv => whnf) | (exact trivial) | (refine And.intro rfl ?_; conv => whnf) | (refine AB.mk (fun h => ?_) (fun h => ?_) <;> (conv => whnf)) | (with_reducible_and_instances rfl) | (exact (rfl : AP.tup _ = AP.tup _)))
end Go.Proofs.YtlhanpkfnhnegaaDoor
/- TextStep of the reference. -/
namespace Go.Proofs.YtlhanpkfnhnegaaDoor
open Go.RowKit

def stA (k : Int) (ws : List (List UInt8)) : Int := if k = 1 ∨ k = 7 ∨ k = 8 ∨ k = 11 then numN (ws.getD 1 []) else nodeIx (ws.getD 1 [])
def stB (k : Int) (ws : List (List UInt8)) : Int := if k = 3 ∨ k = 4 ∨ k = 11 then atN ws 2 else if k = 9 ∨ k = 10 then (match ws[2]? with
  | some w => nodeIx w
  | none => -1) else 0
def stC (k : Int) (ws : List (List UInt8)) : Int := if k = 11 then atN ws 3 else 0
def stF (k : Int) (ws : List (List UInt8)) : List Int := if k = 5 then (match ws[2]? with
  | some w => w.map fun b => (b.toNat : Int) - 48
  | none => []) else []
def sStepOf (k : Int) (ws : List (List UInt8)) : DStep := ⟨k, stA k ws, stB k ws, stC k ws, stF k ws⟩
def sTextStepL (l : List UInt8) : DStep × Bool := if 160 < l.length then (stpZ, false) else if stIx ((wordsL 32 l).getD 0 []) < 1 ∨ (wordsL 32 l).length < 2 then (stpZ, false) else if stepTextL (sStepOf (stIx ((wordsL 32 l).getD 0 [])) (wordsL 32 l)) = l then (sStepOf (stIx ((wordsL 32 l).getD 0 [])) (wordsL 32 l), true) else (stpZ, false)
theorem sTextStep_long (l : List UInt8) (h : 160 < l.length) : PCall av 48 [pL l] (.tup [.agg stpZ.ds, .one (dB false)]) := by
  have hlt : decide (((⟨l.toArray⟩ : ByteArray).size : Int) > 160) = true := by rw [sz_dL]; simp; omega
  refine pcall_of av_ok Tryd.func48 rfl Tryd.call48 Tryd.ntmps48 (congrArg Array.toList Tryd.results48) fun S => ?_; conv => whnf
  repeat' (first | (refine AWP.seq ?_) | (refine AWP.region av_ok ?_; conv => whnf) | (refine AWP.ret ?_; conv => whnf) | (refine AWP.skip ?_; conv => whnf) | (refine AWP.exit ?_; conv => whnf) | (refine AWP.block ?_; conv => whnf) | (refine AWP.cond ?_; conv => whnf) | (refine AB.tt ?_; conv => whnf) | (refine AB.ff ?_; conv => whnf) | (refine AB.ofT (by assumption) ?_; conv => whnf) | (refine AB.ofF (by assumption) ?_; conv => whnf) | (exact trivial) | (refine And.intro rfl ?_; conv => whnf) | (refine AB.mk (fun h => ?_) (fun h => ?_) <;> (conv => whnf)) | (with_reducible_and_instances rfl) | (exact (rfl : AP.tup _ = AP.tup _)))
theorem sTextStep_none (l w0 : List UInt8) (r : List (List UInt8)) (hl : l.length ≤ 160) (hw : wordsL 32 l = w0 :: r) (h : stIx w0 < 1 ∨ (w0 :: r).length < 2) : PCall av 48 [pL l] (.tup [.agg stpZ.ds, .one (dB false)]) := by
  have sp := sl1Split_p l 32 (by omega)
  rw [hw] at sp
  have kp := sl1At_p kindsL w0 (by decide)
  have hlt : decide (((⟨l.toArray⟩ : ByteArray).size : Int) > 160) = false := by rw [sz_dL]; simp; omega
  cases hk : decide (idxL kindsL w0 < 1) with
  | true =>
    refine pcall_of av_ok Tryd.func48 rfl Tryd.call48 Tryd.ntmps48 (congrArg Array.toList Tryd.results48) fun S => ?_; conv => whnf
    repeat' (first | (refine AWP.seq ?_) | (refine AWP.region av_ok ?_; conv => whnf) | (refine AWP.ret ?_; conv => whnf) | (refine AWP.skip ?_; conv => whnf) | (refine AWP.exit ?_; conv => whnf) | (refine AWP.block ?_; conv => whnf) | (refine AWP.cond ?_; conv => whnf) | (refine AB.tt ?_; conv => whnf) | (refine AB.ff ?_; conv => whnf) | (refine AB.ofT (by assumption) ?_; conv => whnf) | (refine AB.ofF (by assumption) ?_; conv => whnf) | (refine ACall.pure sp rfl ?_; conv => whnf) | (exact trivial) | (refine And.intro rfl ?_; conv => whnf) | (refine AB.mk (fun h => ?_) (fun h => ?_) <;> (conv => whnf)) | (with_reducible_and_instances rfl) | (exact (rfl : AP.tup _ = AP.tup _)))
    refine' AWP.draw av_ok 7 [[], [], [1], [1, 2], [2, 1, 3, 0], [0, 3, 1, 2, 4], [], [4, 2, 1, 3, 0, 5, 6]] [(_, _), (_, _), (_, _), (_, _), (_, _), (_, _), (_, _)] ?hD ?hok ?hl ?hf ?hno ?ht; (case hD => kernel_rfl); (case hok => kernel_rfl); (case hl => rfl); (case hf => (conv => whnf); repeat' (first | (refine ⟨rfl, rfl⟩) | exact trivial | (refine AFCall.mk ⟨_, _, sl32Kinds_p, .inl rfl, ?_⟩; conv => whnf) | (refine AFCall.mk ⟨_, _, kp, .inl rfl, ?_⟩; conv => whnf) | (refine AIx.at 0 _ rfl rfl ?_; conv => whnf) | (refine And.intro ?_ ?_ <;> conv => whnf))); (case hno => rfl); (case ht => (conv => whnf); repeat' (first | (refine AWP.seq ?_) | (refine AWP.region av_ok ?_; conv => whnf) | (refine AWP.ret ?_; conv => whnf) | (refine AWP.skip ?_; conv => whnf) | (refine AWP.exit ?_; conv => whnf) | (refine AWP.block ?_; conv => whnf) | (refine AWP.cond ?_; conv => whnf) | (refine AB.tt ?_; conv => whnf) | (refine AB.ff ?_; conv => whnf) | (refine AB.ofT (by assumption) ?_; conv => whnf) | (refine AB.ofF (by assumption) ?_; conv => whnf) | (exact trivial) | (refine And.intro rfl ?_; conv => whnf) | (refine AB.mk (fun h => ?_) (fun h => ?_) <;> (conv => whnf)) | (with_reducible_and_instances rfl) | (exact (rfl : AP.tup _ = AP.tup _))))
  | false =>
    have h2 : decide ((((w0 :: r).map eS).length : Int) < 2) = true := by
      have : ¬ stIx w0 < 1 := by simpa [stIx] using hk
      rcases h with h | h
      · exact absurd h this
      · simp only [List.length_map, decide_eq_true_eq]; omega
    refine pcall_of av_ok Tryd.func48 rfl Tryd.call48 Tryd.ntmps48 (congrArg Array.toList Tryd.results48) fun S => ?_; conv => whnf
    repeat' (first | (refine AWP.seq ?_) | (refine AWP.region av_ok ?_; conv => whnf) | (refine AWP.ret ?_; conv => whnf) | (refine AWP.skip ?_; conv => whnf) | (refine AWP.exit ?_; conv => whnf) | (refine AWP.block ?_; conv => whnf) | (refine AWP.cond ?_; conv => whnf) | (refine AB.tt ?_; conv => whnf) | (refine AB.ff ?_; conv => whnf) | (refine AB.ofT (by assumption) ?_; conv => whnf) | (refine AB.ofF (by assumption) ?_; conv => whnf) | (refine ACall.pure sp rfl ?_; conv => whnf) | (exact trivial) | (refine And.intro rfl ?_; conv => whnf) | (refine AB.mk (fun h => ?_) (fun h => ?_) <;> (conv => whnf)) | (with_reducible_and_instances rfl) | (exact (rfl : AP.tup _ = AP.tup _)))
    refine' AWP.draw av_ok 7 [[], [], [1], [1, 2], [2, 1, 3, 0], [0, 3, 1, 2, 4], [], [4, 2, 1, 3, 0, 5, 6]] [(_, _), (_, _), (_, _), (_, _), (_, _), (_, _), (_, _)] ?hD ?hok ?hl ?hf ?hno ?ht; (case hD => kernel_rfl); (case hok => kernel_rfl); (case hl => rfl); (case hf => (conv => whnf); repeat' (first | (refine ⟨rfl, rfl⟩) | exact trivial | (refine AFCall.mk ⟨_, _, sl32Kinds_p, .inl rfl, ?_⟩; conv => whnf) | (refine AFCall.mk ⟨_, _, kp, .inl rfl, ?_⟩; conv => whnf) | (refine AIx.at 0 _ rfl rfl ?_; conv => whnf) | (refine And.intro ?_ ?_ <;> conv => whnf))); (case hno => rfl); (case ht => (conv => whnf); repeat' (first | (refine AWP.seq ?_) | (refine AWP.region av_ok ?_; conv => whnf) | (refine AWP.ret ?_; conv => whnf) | (refine AWP.skip ?_; conv => whnf) | (refine AWP.exit ?_; conv => whnf) | (refine AWP.block ?_; conv => whnf) | (refine AWP.cond ?_; conv => whnf) | (refine AB.tt ?_; conv => whnf) | (refine AB.ff ?_; conv => whnf) | (refine AB.ofT (by assumption) ?_; conv => whnf) | (refine AB.ofF (by assumption) ?_; conv => whnf) | (exact trivial) | (refine And.intro rfl ?_; conv => whnf) | (refine AB.mk (fun h => ?_) (fun h => ?_) <;> (conv => whnf)) | (with_reducible_and_instances rfl) | (exact (rfl : AP.tup _ = AP.tup _))))
end Go.Proofs.YtlhanpkfnhnegaaDoor
/- Marks in a step's fates. -/
namespace Go.Proofs.YtlhanpkfnhnegaaDoor
open Go.RowKit

def markL (v : Int) (n : Nat) : List Int := (List.range n).map fun (i : Nat) => v + (i : Int)
theorem markL_len (v : Int) (n : Nat) : (markL v n).length = n := by simp [markL]
theorem markL_get (v : Int) {n i : Nat} (h : i < (markL v n).length) : (markL v n)[i] = v + i := by simp [markL]
theorem markL_set (v : Int) (l : List Int) {k : Nat} (h : k < l.length) : ((markL v k ++ l.drop k).set k (v + k)) = markL v (k + 1) ++ l.drop (k + 1) := by
  have hk : (markL v k).length = k := markL_len v k
  rw [List.set_append_right _ _ (by omega), hk, Nat.sub_self, List.drop_eq_getElem_cons h, List.set_cons_zero]
  simp [markL, List.range_succ]
theorem eI_set (l : List Int) (k : Nat) (x : Int) : (l.map eI).set k [dI x] = (l.set k x).map eI := by rw [List.map_set]; rfl
theorem markInt64S_m (l : List Int) (v : Int) (hv : 0 ≤ v ∧ v ≤ 1000000) (hl : l.length ≤ 1000000) : MCall av 101 [.one (.own 1000), .one (.d (dI v))] [(1000, .row 2 1 (l.map eI))] [(1000, .row 2 1 ((markL v l.length).map eI))] [1000] (.val (.one (.d (dI (v + (l.length : Int)))))) := by
  refine mcall_ofR av_ok Tryd.func101 rfl Tryd.call101 Tryd.ntmps101 (congrArg Array.toList Tryd.results101) rfl fun S pv => ?_; conv => whnf
  repeat' (first | (refine AWP.seq ?_) | (refine AWP.region av_ok ?_; conv => whnf) | (refine AWP.ret ?_; conv => whnf) | (refine AWP.skip ?_; conv => whnf) | (refine AWP.exit ?_; conv => whnf) | (refine AWP.block ?_; conv => whnf) | (refine AWP.cond ?_; conv => whnf) | (refine AB.tt ?_; conv => whnf) | (refine AB.ff ?_; conv => whnf) | (refine AB.ofT (by assumption) ?_; conv => whnf) | (refine AB.ofF (by assumption) ?_; conv => whnf) | (exact trivial) | (refine And.intro rfl ?_; conv => whnf) | (refine AB.mk (fun h => ?_) (fun h => ?_) <;> (conv => whnf)) | (with_reducible_and_instances rfl) | (exact (rfl : AP.tup _ = AP.tup _)))
  refine AWP.loopS (fun k : Nat => k ≤ l.length) [1, 5, 6, 7, 8, 9, 10, 11, 12, 13, 14, 15, 16, 17] (fun k => [(1, vI .i64 (v + (k : Int))), (5, vI .i64 (k : Int))]) (fun k => [(9999, .frame (pinsR [1000]) pv), (1000, .row 2 1 ((markL v k ++ l.drop k).map eI))]) (fun k => l.length - k) 0 (by omega) ?_ (SubO.cons rfl (SubO.cons rfl SubO.nil)) (fun k hR => ?_) <;> (conv => whnf)
  · repeat' (first | exact trivial | (refine And.intro rfl ?_; conv => whnf) | (refine And.intro (by simp [vI]) ?_; conv => whnf))
  · have hlen : (markL v k ++ l.drop k).length = l.length := by rw [List.length_append, markL_len, List.length_drop]; omega
    repeat' (first | (refine AWP.seq ?_) | (refine AWP.region av_ok ?_; conv => whnf) | (refine AWP.ret ?_; conv => whnf) | (refine AWP.skip ?_; conv => whnf) | (refine AWP.exit ?_; conv => whnf) | (refine AWP.block ?_; conv => whnf) | (refine AWP.cond ?_; conv => whnf) | (refine AB.tt ?_; conv => whnf) | (refine AB.ff ?_; conv => whnf) | (refine AB.ofT (by assumption) ?_; conv => whnf) | (refine AB.ofF (by assumption) ?_; conv => whnf) | (refine AIx.mapF (by simp only [decide_eq_true_eq, List.length_map] at *; omega) (fun hlt => ?_); conv => whnf) | (refine AW.i64 (by simp only [decide_eq_true_eq, decide_eq_false_iff_not, List.length_map, Bool.not_eq_true', Bool.not_eq_false'] at *; omega) (by simp only [decide_eq_true_eq, decide_eq_false_iff_not, List.length_map, Bool.not_eq_true', Bool.not_eq_false'] at *; omega) ?_; conv => whnf) | (exact trivial) | (refine And.intro rfl ?_; conv => whnf) | (refine AB.mk (fun h => ?_) (fun h => ?_) <;> (conv => whnf)) | (with_reducible_and_instances rfl) | (exact (rfl : AP.tup _ = AP.tup _)))
    · have hlt : k < l.length := by omega
      refine ANext.mk ⟨k + 1, hlt, by omega, ?_, SubO.cons rfl (SubO.cons (congrArg some (congrArg (AO.row 2 1) ((eI_set _ k (v + k)).trans (congrArg (List.map eI) (markL_set v l hlt))))) SubO.nil)⟩
      (conv => whnf); repeat' (first | exact trivial | (refine And.intro rfl ?_; conv => whnf) | (refine And.intro (by simp [vI] <;> omega) ?_; conv => whnf))
    · have hk : k = l.length := by simp only [decide_eq_false_iff_not, List.length_map] at h; omega
      subst hk
      simp only [List.drop_length, List.append_nil]
      repeat' (first | exact trivial | (refine And.intro trivial ?_; conv => whnf) | (refine And.intro rfl ?_; conv => whnf))
theorem markInt64S_p (v : Int) : PCall av 101 [.one (dIs []), pI v] (rI v) := by
  have h0 : decide ((0 : Int) < ((([] : List Int).map eI).length : Int)) = false := rfl
  refine pcall_of av_ok Tryd.func101 rfl Tryd.call101 Tryd.ntmps101 (congrArg Array.toList Tryd.results101) fun S => ?_; conv => whnf
  repeat' (first | (refine AWP.seq ?_) | (refine AWP.region av_ok ?_; conv => whnf) | (refine AWP.ret ?_; conv => whnf) | (refine AWP.skip ?_; conv => whnf) | (refine AWP.exit ?_; conv => whnf) | (refine AWP.block ?_; conv => whnf) | (refine AWP.cond ?_; conv => whnf) | (refine AB.tt ?_; conv => whnf) | (refine AB.ff ?_; conv => whnf) | (refine AB.ofT (by assumption) ?_; conv => whnf) | (refine AB.ofF (by assumption) ?_; conv => whnf) | (exact trivial) | (refine And.intro rfl ?_; conv => whnf) | (refine AB.mk (fun h => ?_) (fun h => ?_) <;> (conv => whnf)) | (with_reducible_and_instances rfl) | (exact (rfl : AP.tup _ = AP.tup _)))
  refine AWP.unroll 1 ?_
  conv => whnf
  repeat' (first | (refine AWP.seq ?_) | (refine AWP.region av_ok ?_; conv => whnf) | (refine AWP.ret ?_; conv => whnf) | (refine AWP.skip ?_; conv => whnf) | (refine AWP.exit ?_; conv => whnf) | (refine AWP.block ?_; conv => whnf) | (refine AWP.cond ?_; conv => whnf) | (refine AB.tt ?_; conv => whnf) | (refine AB.ff ?_; conv => whnf) | (refine AB.ofT (by assumption) ?_; conv => whnf) | (refine AB.ofF (by assumption) ?_; conv => whnf) | (exact trivial) | (refine And.intro rfl ?_; conv => whnf) | (refine AB.mk (fun h => ?_) (fun h => ?_) <;> (conv => whnf)) | (with_reducible_and_instances rfl) | (exact (rfl : AP.tup _ = AP.tup _)))
theorem heldInt64S_p (v : Int) (n : Nat) (hv : 0 ≤ v ∧ v ≤ 1000000) (hn : n ≤ 1000000) : PCall av 102 [.one (dIs (markL v n)), pI v] (rI (v + (n : Int))) := by
  have hlen := markL_len v n
  refine pcall_of av_ok Tryd.func102 rfl Tryd.call102 Tryd.ntmps102 (congrArg Array.toList Tryd.results102) fun S => ?_; conv => whnf
  repeat' (first | (refine AWP.seq ?_) | (refine AWP.region av_ok ?_; conv => whnf) | (refine AWP.ret ?_; conv => whnf) | (refine AWP.skip ?_; conv => whnf) | (refine AWP.exit ?_; conv => whnf) | (refine AWP.block ?_; conv => whnf) | (refine AWP.cond ?_; conv => whnf) | (refine AB.tt ?_; conv => whnf) | (refine AB.ff ?_; conv => whnf) | (refine AB.ofT (by assumption) ?_; conv => whnf) | (refine AB.ofF (by assumption) ?_; conv => whnf) | (exact trivial) | (refine And.intro rfl ?_; conv => whnf) | (refine AB.mk (fun h => ?_) (fun h => ?_) <;> (conv => whnf)) | (with_reducible_and_instances rfl) | (exact (rfl : AP.tup _ = AP.tup _)))
  refine AWP.loopS (fun k : Nat => k ≤ n) [1, 4, 5, 6, 7, 8, 9, 10, 11, 12, 13, 14, 15, 16, 17, 18, 19] (fun k => [(1, vI .i64 (v + (k : Int))), (5, vI .i64 (k : Int))]) (fun k => []) (fun k => n - k) 0 (by omega) ?_ SubO.nil (fun k hR => ?_) <;> (conv => whnf)
  · repeat' (first | exact trivial | (refine And.intro rfl ?_; conv => whnf) | (refine And.intro (by simp [vI]) ?_; conv => whnf))
  · repeat' (first | (refine AWP.seq ?_) | (refine AWP.region av_ok ?_; conv => whnf) | (refine AWP.ret ?_; conv => whnf) | (refine AWP.skip ?_; conv => whnf) | (refine AWP.exit ?_; conv => whnf) | (refine AWP.block ?_; conv => whnf) | (refine AWP.cond ?_; conv => whnf) | (refine AB.tt ?_; conv => whnf) | (refine AB.ff ?_; conv => whnf) | (refine AB.ofT (by assumption) ?_; conv => whnf) | (refine AB.ofF (by assumption) ?_; conv => whnf) | (refine AIx.mapF (by simp only [decide_eq_true_eq, List.length_map] at *; omega) (fun hlt => ?_); have hg := markL_get v hlt; conv => whnf) | (refine AW.i64 (by simp only [decide_eq_true_eq, decide_eq_false_iff_not, List.length_map, Bool.not_eq_true', Bool.not_eq_false'] at *; omega) (by simp only [decide_eq_true_eq, decide_eq_false_iff_not, List.length_map, Bool.not_eq_true', Bool.not_eq_false'] at *; omega) ?_; conv => whnf) | (exact trivial) | (refine And.intro rfl ?_; conv => whnf) | (refine AB.mk (fun h => ?_) (fun h => ?_) <;> (conv => whnf)) | (with_reducible_and_instances rfl) | (exact (rfl : AP.tup _ = AP.tup _)))
    · rw [hg] at h
      simp at h
    · have hlt : k < n := by omega
      refine ANext.mk ⟨k + 1, hlt, by omega, ?_, SubO.nil⟩
      (conv => whnf); repeat' (first | exact trivial | (refine And.intro rfl ?_; conv => whnf) | (refine And.intro (by simp [vI] <;> omega) ?_; conv => whnf))
    · have hk : k = n := by simp only [decide_eq_false_iff_not, List.length_map] at h; omega
      subst hk
      rfl
end Go.Proofs.YtlhanpkfnhnegaaDoor
/- Marks in a step. -/
namespace Go.Proofs.YtlhanpkfnhnegaaDoor
open Go.RowKit

theorem markStep_m (k a b c : Int) (l : List Int) (v : Int) (hv : 0 ≤ v ∧ v ≤ 1000000) (hl : l.length ≤ 1000000) : MCall av 50 [stAgg k a b c (.own 1000), .one (.d (dI v))] [(1000, .row 2 1 (l.map eI))] [(1000, .row 2 1 ((markL v l.length).map eI))] [1000] (.val (.one (.d (dI (v + (l.length : Int)))))) := by
  have mm := markInt64S_m l v hv hl
  refine mcall_ofR av_ok Tryd.func50 rfl Tryd.call50 Tryd.ntmps50 (congrArg Array.toList Tryd.results50) rfl fun S pv => ?_; conv => whnf
  repeat' (first | (refine AWP.seq ?_) | (refine AWP.region av_ok ?_; conv => whnf) | (refine AWP.ret ?_; conv => whnf) | (refine AWP.skip ?_; conv => whnf) | (refine AWP.exit ?_; conv => whnf) | (refine AWP.block ?_; conv => whnf) | (refine AWP.cond ?_; conv => whnf) | (refine AB.tt ?_; conv => whnf) | (refine AB.ff ?_; conv => whnf) | (refine AB.ofT (by assumption) ?_; conv => whnf) | (refine AB.ofF (by assumption) ?_; conv => whnf) | (refine ACall.upd mm 1000 rfl rfl rfl ?_; conv => whnf) | (refine AW.i64 (by simp only [decide_eq_true_eq, decide_eq_false_iff_not, List.length_map, Bool.not_eq_true', Bool.not_eq_false'] at *; omega) (by simp only [decide_eq_true_eq, decide_eq_false_iff_not, List.length_map, Bool.not_eq_true', Bool.not_eq_false'] at *; omega) ?_; conv => whnf) | (exact trivial) | (refine And.intro rfl ?_; conv => whnf) | (refine AB.mk (fun h => ?_) (fun h => ?_) <;> (conv => whnf)) | (with_reducible_and_instances rfl) | (exact (rfl : AP.tup _ = AP.tup _)))
theorem markStep_p (k a b c v : Int) : PCall av 50 [.agg (DStep.ds ⟨k, a, b, c, []⟩), pI v] (rI v) := by
  have mm := markInt64S_p v
  refine pcall_of av_ok Tryd.func50 rfl Tryd.call50 Tryd.ntmps50 (congrArg Array.toList Tryd.results50) fun S => ?_; conv => whnf
  repeat' (first | (refine AWP.seq ?_) | (refine AWP.region av_ok ?_; conv => whnf) | (refine AWP.ret ?_; conv => whnf) | (refine AWP.skip ?_; conv => whnf) | (refine AWP.exit ?_; conv => whnf) | (refine AWP.block ?_; conv => whnf) | (refine AWP.cond ?_; conv => whnf) | (refine AB.tt ?_; conv => whnf) | (refine AB.ff ?_; conv => whnf) | (refine AB.ofT (by assumption) ?_; conv => whnf) | (refine AB.ofF (by assumption) ?_; conv => whnf) | (refine ACall.pure mm rfl ?_; conv => whnf) | (exact trivial) | (refine And.intro rfl ?_; conv => whnf) | (refine AB.mk (fun h => ?_) (fun h => ?_) <;> (conv => whnf)) | (with_reducible_and_instances rfl) | (exact (rfl : AP.tup _ = AP.tup _)))
theorem heldStep_p (k a b c v : Int) (n : Nat) (hv : 0 ≤ v ∧ v ≤ 1000000) (hn : n ≤ 1000000) : PCall av 51 [.agg (DStep.ds ⟨k, a, b, c, markL v n⟩), pI v] (rI (v + (n : Int))) := by
  have mm := heldInt64S_p v n hv hn
  have h0 : decide (v + (n : Int) < 0) = false := by simp only [decide_eq_false_iff_not]; omega
  refine pcall_of av_ok Tryd.func51 rfl Tryd.call51 Tryd.ntmps51 (congrArg Array.toList Tryd.results51) fun S => ?_; conv => whnf
  repeat' (first | (refine AWP.seq ?_) | (refine AWP.region av_ok ?_; conv => whnf) | (refine AWP.ret ?_; conv => whnf) | (refine AWP.skip ?_; conv => whnf) | (refine AWP.exit ?_; conv => whnf) | (refine AWP.block ?_; conv => whnf) | (refine AWP.cond ?_; conv => whnf) | (refine AB.tt ?_; conv => whnf) | (refine AB.ff ?_; conv => whnf) | (refine AB.ofT (by assumption) ?_; conv => whnf) | (refine AB.ofF (by assumption) ?_; conv => whnf) | (refine ACall.pure mm rfl ?_; conv => whnf) | (exact trivial) | (refine And.intro rfl ?_; conv => whnf) | (refine AB.mk (fun h => ?_) (fun h => ?_) <;> (conv => whnf)) | (with_reducible_and_instances rfl) | (exact (rfl : AP.tup _ = AP.tup _)))
end Go.Proofs.YtlhanpkfnhnegaaDoor
