/- Joined by join.py: AvXA AvXB AvXC AvXD AvXE AvXF AvXG -/
import Derived.Test.YtlhanpkfnhnegaaDoorAvJ8
import Derived.Test.YtlhanpkfnhnegaaDoorStep
import Derived.Test.YtlhanpkfnhnegaaDoorGrowD
import Derived.Test.YtlhanpkfnhnegaaDoorMarkStep
import Derived.Test.YtlhanpkfnhnegaaDoorToStep
set_option linter.unusedVariables false
set_option linter.unusedSimpArgs false
set_option maxRecDepth 100000
/- Scripts read: what is computed; the reference. -/
namespace Go.Proofs.YtlhanpkfnhnegaaDoor
open Go.RowKit

/-- The lines that are left, and the steps so far. -/
def scrL : List (List UInt8) → List DStep → List DStep × Int
  | [], out => (out, -1)
  | [w], out => if w = [] then (out, -1) else if (sTextStepL w).2 = false ∨ out.length = 600 then ([], out.length) else ([], -3)
  | w :: v :: r, out => if (sTextStepL w).2 = false ∨ out.length = 600 then ([], out.length) else scrL (v :: r) (out ++ [(sTextStepL w).1])
def textScriptL (l : List UInt8) : List DStep × Int := if 20000 < l.length then ([], -2) else scrL (wordsL 10 l) []
def outAt (ps : List (List UInt8)) (k : Nat) : List DStep := (ps.take k).map fun w => (sTextStepL w).1
theorem outAt_len (ps : List (List UInt8)) {k : Nat} (h : k ≤ ps.length) : (outAt ps k).length = k := by simp [outAt, h]
theorem outAt_succ {ps : List (List UInt8)} {k : Nat} (h : k < ps.length) : outAt ps (k + 1) = outAt ps k ++ [(sTextStepL ps[k]).1] := by
  unfold outAt
  rw [← List.take_append_getElem h, List.map_append]
  rfl
theorem drop_at {α : Type} {l : List α} {k : Nat} (h : k < l.length) : l.drop k = l[k] :: l.drop (k + 1) := List.drop_eq_getElem_cons h
/-- A line that is refused. -/
theorem scr_bad {ps : List (List UInt8)} {k : Nat} (h : k < ps.length) (hne : ¬ (k + 1 = ps.length ∧ ps[k] = [])) (hb : (sTextStepL ps[k]).2 = false ∨ k = 600) : scrL (ps.drop k) (outAt ps k) = ([], (k : Int)) := by
  rw [drop_at h]
  have hl := outAt_len ps (Nat.le_of_lt h)
  rcases Nat.lt_or_ge (k + 1) ps.length with h1 | h1
  · rw [drop_at h1]
    unfold scrL
    rw [hl, if_pos hb]
  · have e : ps.drop (k + 1) = [] := List.drop_eq_nil_of_le h1
    rw [e]
    unfold scrL
    rw [hl, if_neg (fun hw => hne ⟨by omega, hw⟩), if_pos hb]
/-- A line that is a step. -/
theorem scr_good {ps : List (List UInt8)} {k : Nat} (h : k < ps.length) (h1 : k + 1 < ps.length) (hb : (sTextStepL ps[k]).2 = true) (h6 : k ≠ 600) : scrL (ps.drop k) (outAt ps k) = scrL (ps.drop (k + 1)) (outAt ps (k + 1)) := by
  have hl := outAt_len ps (Nat.le_of_lt h)
  rw [drop_at h, drop_at h1, outAt_succ h]
  conv => lhs; unfold scrL
  rw [hl, if_neg (by rw [hb]; simpa using h6)]
theorem scr_open {ps : List (List UInt8)} {k : Nat} (h : k < ps.length) (h1 : k + 1 = ps.length) (hne : ps[k] ≠ []) (hb : (sTextStepL ps[k]).2 = true) (h6 : k ≠ 600) : scrL (ps.drop k) (outAt ps k) = ([], -3) := by
  have hl := outAt_len ps (Nat.le_of_lt h)
  rw [drop_at h, List.drop_eq_nil_of_le (by omega)]
  unfold scrL
  rw [hl, if_neg hne, if_neg (by rw [hb]; simpa using h6)]
theorem scr_end {ps : List (List UInt8)} {k : Nat} (h : k < ps.length) (h1 : k + 1 = ps.length) (he : ps[k] = []) : scrL (ps.drop k) (outAt ps k) = (outAt ps k, -1) := by
  rw [drop_at h, List.drop_eq_nil_of_le (by omega)]
  unfold scrL
  rw [if_pos he]
/-- Where a loop over the lines stands. -/
structure ScrAt (ps : List (List UInt8)) (R : List DStep × Int) (k : Nat) : Prop where
  le : k ≤ ps.length
  six : k ≤ 600
  mid : k < ps.length → R = scrL (ps.drop k) (outAt ps k)
  fin : k = ps.length → R = ([], -3)
  last : ∀ h : ps.length - 1 < ps.length, k = ps.length → ps[ps.length - 1] ≠ []
theorem ScrAt.start {ps : List (List UInt8)} (h : ps ≠ []) : ScrAt ps (scrL ps []) 0 :=
  ⟨Nat.zero_le _, by omega, fun _ => by simp [outAt], fun e => absurd (List.eq_nil_of_length_eq_zero e.symm) h, fun _ e => absurd (List.eq_nil_of_length_eq_zero e.symm) h⟩
theorem ScrAt.next {ps : List (List UInt8)} {R : List DStep × Int} {k : Nat} (h : ScrAt ps R k) (hk : k < ps.length) (hne : ¬ (k + 1 = ps.length ∧ ps[k] = [])) (hb : (sTextStepL ps[k]).2 = true) (h6 : k ≠ 600) : ScrAt ps R (k + 1) := by
  have hs := h.six
  refine ⟨hk, by omega, fun h1 => (h.mid hk).trans (scr_good hk h1 hb h6), fun h1 => ?_, fun h0 h1 => ?_⟩
  · exact (h.mid hk).trans (scr_open hk h1 (fun e => hne ⟨h1, e⟩) hb h6)
  · have e : ps.length - 1 = k := by omega
    intro hw
    apply hne
    refine ⟨h1, ?_⟩
    rw [← hw]
    congr 1
    exact e.symm
end Go.Proofs.YtlhanpkfnhnegaaDoor
/- A step read, its numbers in new memory of its own. -/
namespace Go.Proofs.YtlhanpkfnhnegaaDoor
open Go.ChangeShapes Go.WideShapes Go.RowKit

/-- A call that is handed no objects, from any world behind a good one. -/
theorem MCall.free {E : AEnv} {f : FuncId} {args : List AA} {post : List (Nat × AO)} {res : AR} (hc : MCall E f args [] post [] res) {w1 w : World} (hW : E.W w1) (hb : Below w1.heap.size w1 w) (us : List Value) (hl : us.length = args.length)
    (hr : ∀ (i : Nat) x u, args[i]? = some x → us[i]? = some u → RelV (fun b => b < w.heap.size) w (fun _ => undef) x.v u) :
    Calls E.P f us.toArray w fun e w' => ∃ v Z' ρ', e = .returned v ∧ Below w.heap.size w w' ∧ WS E.W (baseM w (fun b => b < w.heap.size) (fun _ => undef) []) Z' w' ρ' post ∧ RelV Z' w' ρ' res.v v := by
  have hw0 : WS E.W (baseM w (fun b => b < w.heap.size) (fun _ => undef) []) (fun b => b < w.heap.size) w (fun _ => undef) [] :=
    ⟨rfl, rfl, rfl, Nat.le_refl _, fun _ _ _ => rfl, fun _ h => h, fun _ _ _ h => (by cases h), fun _ _ _ _ _ h => (by cases h), fun _ _ h => (by cases h), ⟨w1, hW, hb, fun b h => Nat.lt_of_lt_of_le h hb.size⟩, fun _ h => h, fun _ h => .inl h⟩
  refine (hc.run _ w _ us hw0 hl hr).mono ?_
  rintro e w' ⟨v, Z', ρ', rfl, hw, _, hv⟩
  refine ⟨v, Z', ρ', rfl, ⟨hw.os, hw.tape, hw.output, hw.size, fun b hb => hw.old b hb ?_⟩, hw, hv⟩
  rintro ⟨id, o, h, _⟩
  cases h
theorem relC_int {Z : Nat → Prop} {w : World} {x : Int} {u : Value} (h : RelD Z w (dI x) u) : u = .int .i64 x := relD_pl rfl h
/-- A row of numbers that the call made. -/
theorem row_new {T : World → Prop} {Z' : Nat → Prop} {w w' : World} {ρ ρ' : Nat → Value} {Z : Nat → Prop} {post : List (Nat × AO)} (h : WS T (baseM w Z ρ []) Z' w' ρ' post) {id : Nat} {l : List Int} (ho : oget post id = some (.row 2 1 (l.map eI))) (hw : ∀ x ∈ l, (Lit.int .i64 x).wf = true) :
    ∃ A cap F, ρ' id = .slice A l.length cap ∧ Res (Rep.sl (Rep.int .i64)) w.heap.size w' [.slice A l.length cap] l F := by
  obtain ⟨us, _, h1, h2, h3, hown, hd⟩ := h.obj id _ ho
  have hus : us.flatten = l.map (Value.int .i64) := by
    have e : us = l.map fun x => [Value.int .i64 x] := by
      apply List.ext_getElem
      · simpa using h1
      · intro i g1 g2
        have hi : i < l.length := by simpa using g2
        have hl1 := h3 us[i] (List.getElem_mem g1)
        obtain ⟨y, hy⟩ := List.length_eq_one_iff.1 hl1
        have := hd i 0 (eI l[i]) us[i] (dI l[i]) y (by simp [hi]) (by simp [g1]) rfl (by rw [hy]; rfl)
        rw [List.getElem_map, hy, relC_int this]
    rw [e, flat_ones]
  rw [hus] at hown
  have hn : (l.map eI).length = l.length := by simp
  rw [hn] at hown
  have hall := ints_all w' .i64 l hw
  obtain ⟨A, cap, hv, hrd, hbl⟩ := Rep.sl_own (R := Rep.int .i64) hown hall rfl
  refine ⟨A, cap, _, hv, by rw [← hv]; exact hrd, ?_, fun b hb => ?_⟩
  · rw [List.append_nil]
    unfold headOf
    split
    · simp
    · split <;> simp
  · rw [List.append_nil] at hb
    have hblk : blkOf (ρ' id) = some b := by
      unfold headOf at hb
      split at hb
      · cases hb
      · split at hb
        · rw [hv]
          simp at hb
          simp [blkOf, hb]
        · cases hb
    refine ⟨?_, ?_⟩
    · rcases (h.mine id _ b ho hblk).2 with h | ⟨_, _, h, _⟩
      · exact h
      · cases h
    · rcases hown.2 with ⟨hv2, _⟩ | ⟨g, cap2, cur, hv2, _, hg, _⟩
      · rw [hv2] at hblk
        simp [blkOf] at hblk
      · rw [hv2] at hblk
        simp [blkOf] at hblk
        subst hblk
        exact ⟨cur, _, hg⟩
end Go.Proofs.YtlhanpkfnhnegaaDoor
/- A step read by the program, in new memory. -/
namespace Go.Proofs.YtlhanpkfnhnegaaDoor
open Go.ChangeShapes Go.WideShapes Go.RowKit

theorem step_small {l : List UInt8} : (0 ≤ (sTextStepL l).1.kind ∧ (sTextStepL l).1.kind ≤ 11) ∧ (0 ≤ (sTextStepL l).1.a ∧ (sTextStepL l).1.a ≤ 1000000000) ∧ (0 ≤ (sTextStepL l).1.b ∧ (sTextStepL l).1.b ≤ 1000000000) ∧ (0 ≤ (sTextStepL l).1.c ∧ (sTextStepL l).1.c ≤ 1000000000) ∧ fatesB (sTextStepL l).1.fates = true := by
  by_cases h : (sTextStepL l).2 = true
  · obtain ⟨x, e, ok, _⟩ := sStep_sound h
    rw [e]
    obtain ⟨h1, h2, h3, h4, h5, _⟩ := stepOk_facts ok
    exact ⟨by simp only; omega, h2, h3, h4, h5⟩
  · rw [sStep_no h]
    decide
theorem fates_wf {l : List Int} (h : fatesB l = true) : ∀ x ∈ l, (Lit.int .i64 x).wf = true := by
  intro x hx
  obtain ⟨k, hk, rfl⟩ := List.getElem_of_mem hx
  have := fatesB_at h hk
  exact i64_wf (by omega) (by omega)
theorem relV_tup2 {Z : Nat → Prop} {w : World} {ρ : Nat → Value} {a b : AV} {v : Value} (h : RelV Z w ρ (.tup [a, b]) v) : ∃ x y, v = .tuple #[x, y] ∧ RelV Z w ρ a x ∧ RelV Z w ρ b y := by
  cases h with
  | tup _ us hl h =>
    match us, hl, h with
    | [], hl, _ => simp at hl
    | [x], hl, _ => simp at hl
    | x :: y :: z :: r, hl, _ => simp at hl
    | [x, y], hl, h => exact ⟨x, y, rfl, h 0 _ _ rfl rfl, h 1 _ _ rfl rfl⟩
theorem relV_st {Z : Nat → Prop} {w : World} {ρ : Nat → Value} {k a b c : Int} {f : AC} {v : Value} (h : RelV Z w ρ (stAgg k a b c f).v v) : ∃ u, v = .agg #[.int .i64 k, .int .i64 a, .int .i64 b, .int .i64 c, u] ∧ RelC Z w ρ f u := by
  cases h with
  | agg _ us hl h =>
    match us, hl, h with
    | [], hl, _ => simp at hl
    | [x], hl, _ => simp at hl
    | [x, y], hl, _ => simp at hl
    | [x, y, z], hl, _ => simp at hl
    | [x, y, z, t], hl, _ => simp at hl
    | x :: y :: z :: t :: u :: s :: r, hl, _ => simp at hl
    | [x, y, z, t, u], hl, h =>
      have e0 : x = _ := relC_int (show RelD Z w (dI k) x from h 0 _ _ rfl rfl)
      have e1 : y = _ := relC_int (show RelD Z w (dI a) y from h 1 _ _ rfl rfl)
      have e2 : z = _ := relC_int (show RelD Z w (dI b) z from h 2 _ _ rfl rfl)
      have e3 : t = _ := relC_int (show RelD Z w (dI c) t from h 3 _ _ rfl rfl)
      subst e0 e1 e2 e3
      exact ⟨u, rfl, h 4 _ _ rfl rfl⟩
/-- A step and a bool are handed back; the step's numbers lie in new memory. -/
def OutStepB (y : DStep × Bool) (w : World) (e : Ending) (w' : World) : Prop :=
  ∃ A cap F, e = .returned (.tuple #[.agg #[.int .i64 y.1.kind, .int .i64 y.1.a, .int .i64 y.1.b, .int .i64 y.1.c, .slice A y.1.fates.length cap], .bool y.2]) ∧
    Rep.DStep.rd w' [.int .i64 y.1.kind, .int .i64 y.1.a, .int .i64 y.1.b, .int .i64 y.1.c, .slice A y.1.fates.length cap] y.1 F ∧ Fresh w.heap.size w' F ∧ Below w.heap.size w w'
theorem iTextStep_calls (l : List UInt8) (hl : l.length ≤ 2000000) {w1 w : World} (hW : TabR w1) (hb : Below w1.heap.size w1 w) : Calls Tryd.prog 49 #[.string ⟨l.toArray⟩] w (OutStepB (sTextStepL l) w) := by
  have ip := iTextStep_m l hl
  rw [textStep_eq] at ip
  obtain ⟨hk, ha, hbb, hc, hf⟩ := step_small (l := l)
  generalize sTextStepL l = y at ip hk ha hbb hc hf
  obtain ⟨⟨k, a, b, c, f⟩, q⟩ := y
  simp only at hk ha hbb hc hf
  have wk := i64_wf (x := k) (by omega) (by omega)
  have wa := i64_wf (x := a) (by omega) (by omega)
  have wb := i64_wf (x := b) (by omega) (by omega)
  have wc := i64_wf (x := c) (by omega) (by omega)
  have harg : ∀ (i : Nat) x u, [AA.one (.d (dL l))][i]? = some x → [Value.string ⟨l.toArray⟩][i]? = some u → RelV (fun b => b < w.heap.size) w (fun _ => undef) x.v u := by
    intro i x u h1 h2
    cases i with
    | zero =>
      simp at h1 h2
      subst h1 h2
      exact .one _ _ (show RelD _ _ (dL l) _ from .pv _ rfl)
    | succ i => simp at h1
  rcases ip with ⟨h0, m⟩ | ⟨hq, hfl, m⟩
  · simp only at h0 m
    subst h0
    refine (m.free hW hb [.string ⟨l.toArray⟩] rfl harg).mono ?_
    rintro e w' ⟨v, Z', ρ', rfl, hbl, hws, hv⟩
    obtain ⟨x, z, rfl, hx, hz⟩ := relV_tup2 hv
    obtain ⟨u, rfl, hu⟩ := relV_st hx
    have ez : z = .bool q := relV_pv hz
    subst ez
    have eu : u = .slice none 0 0 := hu
    subst eu
    exact ⟨none, 0, [], rfl, DStep_make (x := ⟨k, a, b, c, []⟩) wk wa wb wc ⟨none, 0, [], [], rfl, Nat.le_refl _, Nat.zero_le _, fun j hj => absurd hj (Nat.not_lt_zero _), ⟨rfl, rfl⟩, rfl⟩, Fresh.nil _ _, hbl⟩
  · simp only at hq m
    subst hq
    refine (m.free hW hb [.string ⟨l.toArray⟩] rfl harg).mono ?_
    rintro e w' ⟨v, Z', ρ', rfl, hbl, hws, hv⟩
    obtain ⟨x, z, rfl, hx, hz⟩ := relV_tup2 hv
    obtain ⟨u, rfl, hu⟩ := relV_st hx
    have ez : z = .bool true := relV_pv hz
    subst ez
    obtain ⟨A, cap, F, hA, hres⟩ := row_new (id := 901) hws rfl (fates_wf hf)
    have eu : u = ρ' 901 := hu.1
    rw [hA] at eu
    subst eu
    exact ⟨A, cap, F, rfl, DStep_make (x := ⟨k, a, b, c, f⟩) wk wa wb wc hres.rd, hres.fresh, hbl⟩
end Go.Proofs.YtlhanpkfnhnegaaDoor
/- Scripts read by the program. -/
namespace Go.Proofs.YtlhanpkfnhnegaaDoor
open Go.ChangeShapes Go.WideShapes Go.RowKit

def OutSlI {α : Type} (R : Rep α) (y : List α × Int) (w : World) (e : Ending) (w' : World) : Prop :=
  ∃ A cap F, e = .returned (.tuple #[.slice A y.1.length cap, .int .i64 y.2]) ∧ R.sl.rd w' [.slice A y.1.length cap] y.1 F ∧ Fresh w.heap.size w' F ∧ Below w.heap.size w w'
theorem OutSlI.nil {α : Type} {R : Rep α} {y : List α × Int} {x : Int} {w w' : World} (hb : Below w.heap.size w w') (h : y = ([], x)) : OutSlI R y w (.returned (.tuple #[.slice none 0 0, .int .i64 x])) w' := by
  subst h
  exact ⟨none, 0, [], rfl, ⟨none, 0, [], [], rfl, Nat.le_refl _, Nat.zero_le _, fun j hj => absurd hj (Nat.not_lt_zero _), ⟨rfl, rfl⟩, rfl⟩, Fresh.nil _ _, hb⟩
theorem OutSlI.of {α : Type} {R : Rep α} {y : List α × Int} {l : List α} {x : Int} {w w' : World} {t : TypeId} {A : Option Addr} {n c : Nat} (hg : Grow R t w.heap.size w' (.slice A n c) n l) (hb : Below w.heap.size w w') (h : y = (l, x)) : OutSlI R y w (.returned (.tuple #[.slice A n c, .int .i64 x])) w' := by
  subst h
  have hn : n = l.length := hg.1
  subst hn
  obtain ⟨A', c', F, e, h1, h2, h3⟩ := Grow.out hg hb
  injection e with e
  injection e with e1 _ e2
  subst e1 e2
  exact ⟨_, _, F, rfl, h1, h2, h3⟩
theorem joinL_empty {ps : List (List UInt8)} {k : Nat} (h : k < ps.length) : (joinL 10 (ps.drop k)).isEmpty = decide (k + 1 = ps.length ∧ ps[k] = []) := by
  rw [drop_at h]
  rcases Nat.lt_or_ge (k + 1) ps.length with h1 | h1
  · rw [drop_at h1]
    have : ¬ (k + 1 = ps.length ∧ ps[k] = []) := fun e => by omega
    simp [joinL, this]
  · rw [List.drop_eq_nil_of_le h1]
    have e : k + 1 = ps.length := by omega
    cases hp : ps[k] with
    | nil => simp [joinL, e]
    | cons a r => simp [joinL]
theorem row_two {w : World} {o : Obj} (cs : Array Value) (t : TypeId) : Row ((w.alloc o).alloc (.cells cs t)) (some ⟨w.heap.size + 1, 0, none⟩) cs.toList := by
  have h : (w.alloc o).heap.size = w.heap.size + 1 := by simp
  have := row_one (w := w.alloc o) cs t
  rw [h] at this
  exact this
set_option maxHeartbeats 2000000 in
theorem iTextScript_calls (l : List UInt8) (hl : l.length ≤ 2000000) (w : World) (hW : TabR w) : Calls Tryd.prog 60 #[.string ⟨l.toArray⟩] w (OutSlI Rep.DStep (textScriptL l) w) := by
  by_cases hlong : 20000 < l.length
  · have e : textScriptL l = ([], -2) := by unfold textScriptL; rw [if_pos hlong]
    have hz : (⟨l.toArray⟩ : ByteArray).size = l.length := by simp [ByteArray.size]
    rw [e]
    go_enter Tryd.func60, Tryd.ntmps60
    go_wp2
    go_ret2
    exact OutSlI.nil (by repeat (first | with_reducible exact Below.refl _ _ | with_reducible assumption | (with_reducible refine Below.drew ?_) | (with_reducible refine Below.alloc ?_ (by first | with_reducible exact Nat.le_refl _ | omega | (simp; done) | (simp; omega) | (simp [World.setCell]; omega) | (simp [World.setCell]; done)) _) | (with_reducible refine Below.setCell ?_ (by first | with_reducible exact Nat.le_refl _ | omega | (simp; done) | (simp; omega) | (simp [World.setCell]; omega) | (simp [World.setCell]; done)) _))) rfl
  · have e : textScriptL l = scrL (wordsL 10 l) [] := by unfold textScriptL; rw [if_neg hlong]
    have hz : (⟨l.toArray⟩ : ByteArray).size = l.length := by simp [ByteArray.size]
    have hne := wordsL_ne 10 l
    have hst := ScrAt.start hne
    have hnoL : ∀ w ∈ wordsL 10 l, (10 : UInt8) ∉ w := words_no
    have hjl : joinL 10 (wordsL 10 l) = l := join_words 10 l
    rw [e]
    generalize scrL (wordsL 10 l) [] = R at hst
    generalize hps : wordsL 10 l = ps at *
    go_enter Tryd.func60, Tryd.ntmps60
    go_wp2
    go_loopw [4, 5, 6] (fun out en rest wr => ∃ (k : Nat) (A' : Option Addr) (c' : Nat), ScrAt ps R k ∧ out = .slice A' k c' ∧ en = .bool (decide (k < ps.length)) ∧ rest = .string ⟨(joinL 10 (ps.drop k)).toArray⟩ ∧ Grow Rep.DStep 47 w.heap.size wr (.slice A' k c') k (outAt ps k) ∧ Below w.heap.size w wr) (fun out _ _ _ => 601 - (match out with | .slice _ n _ => n | _ => 0))
    case atStart =>
      have h0 : 0 < ps.length := List.length_pos_iff.2 hne
      refine ⟨0, _, _, hst, rfl, by simp [h0], by rw [List.drop_zero, hjl], Grow.empty _ _ _ (Nat.le_refl _), (by repeat (first | with_reducible exact Below.refl _ _ | with_reducible assumption | (with_reducible refine Below.drew ?_) | (with_reducible refine Below.alloc ?_ (by first | with_reducible exact Nat.le_refl _ | omega | (simp; done) | (simp; omega) | (simp [World.setCell]; omega) | (simp [World.setCell]; done)) _) | (with_reducible refine Below.setCell ?_ (by first | with_reducible exact Nat.le_refl _ | omega | (simp; done) | (simp; omega) | (simp [World.setCell]; omega) | (simp [World.setCell]; done)) _)))⟩
    case round =>
      obtain ⟨k, B', c', hs, rfl, rfl, rfl, hg, hb⟩ := hrel
      by_cases hlt : k < ps.length
      · by_cases hend : k + 1 = ps.length ∧ ps[k] = []
        · have hR := (hs.mid hlt).trans (scr_end hlt hend.1 hend.2)
          have H := OutSlI.of hg hb hR
          have hj : joinL 10 (ps.drop k) = [] := by
            have := joinL_empty hlt
            rw [decide_eq_true hend] at this
            exact List.isEmpty_iff.1 this
          have hd : decide (k < ps.length) = true := by simpa using hlt
          rw [hj, hd]
          clear hg hb hs hst
          go_wp2
          go_ret2
          exact H
        · have hne2 : (joinL 10 (ps.drop k)).isEmpty = false := by rw [joinL_empty hlt]; exact decide_eq_false hend
          have hlen : (joinL 10 (ps.drop k)).length ≤ 20000 := by
            have := join_drop_len (c := 10) k ps
            rw [hjl] at this
            omega
          obtain ⟨_, m, hm⟩ := hW.below hb
          have hno : (10 : UInt8) ∉ ps[k] := hnoL _ (List.getElem_mem hlt)
          rw [drop_at hlt] at hlen hne2 ⊢
          generalize hws : ps.drop (k + 1) = ws at *
          generalize hw0 : ps[k] = w0 at *
          have cc := cut_calls 10 w0 ws hno (by omega)
          generalize hrb : (⟨(joinL 10 (w0 :: ws)).toArray⟩ : ByteArray) = rb at *
          have hrE : rb.toList.isEmpty = false := by
            rw [← hrb]
            simpa using hne2
          clear hst hz hl hlong e
          go_wp2_with fail
          refine (cc wr m hm).mono ?_
          rintro e W1 ⟨rfl, n1, rfl⟩
          have hemp : (!ws.isEmpty) = decide (k + 1 < ps.length) := by
            rw [← hws]
            rcases Nat.lt_or_ge (k + 1) ps.length with h | h
            · rw [drop_at h]; simp [h]
            · rw [List.drop_eq_nil_of_le h]; simp; omega
          have hw0l : w0.length ≤ 2000000 := by
            have := join_drop_len (c := 10) 0 (w0 :: ws)
            have h1 : w0.length ≤ (joinL 10 (w0 :: ws)).length := by
              cases ws with
              | nil => simp [joinL]
              | cons v r => simp [joinL]
            omega
          have hbW : Below w.heap.size w (wr.drewN n1) := hb.trans ((below_drewN' wr n1).mono hb.size)
          go_wp2_with fail
          refine (iTextStep_calls w0 hw0l hW hbW).mono ?_
          rintro e W2 ⟨A1, c1, F1, rfl, hrd, hfr, hb2⟩
          cases hq : (sTextStepL w0).2 with
          | false =>
            have hR : R = ([], (k : Int)) := (hs.mid hlt).trans (scr_bad hlt (by rw [hw0]; exact hend) (.inl (by rw [hw0]; exact hq)))
            have hbx := hbW.trans (hb2.mono hbW.size)
            clear hg hrd hfr hs hrb cc hb2 hbW hb
            go_wp2_with fail
            go_ret2
            have hz2 := hbx.size
            exact OutSlI.nil (Below.trans (b := W2) hbx (by repeat (first | with_reducible exact Below.refl _ _ | with_reducible assumption | (with_reducible refine Below.drew ?_) | (with_reducible refine Below.alloc ?_ (by first | with_reducible exact Nat.le_refl _ | omega | (simp; done) | (simp; omega) | (simp [World.setCell]; omega) | (simp [World.setCell]; done)) _) | (with_reducible refine Below.setCell ?_ (by first | with_reducible exact Nat.le_refl _ | omega | (simp; done) | (simp; omega) | (simp [World.setCell]; omega) | (simp [World.setCell]; done)) _)))) hR
          | true =>
            by_cases h6 : k = 600
            · have hR : R = ([], (k : Int)) := (hs.mid hlt).trans (scr_bad hlt (by rw [hw0]; exact hend) (.inr h6))
              have hbx := hbW.trans (hb2.mono hbW.size)
              have h6a : ((k : Int) == 600) = true := by simp [h6]
              have h6b : (k : Int) = 600 := by simp [h6]
              clear hg hrd hfr hs hrb cc hb2 hbW hb
              go_wp2_with fail
              go_ret2
              have hz2 := hbx.size
              exact OutSlI.nil (Below.trans (b := W2) hbx (by repeat (first | with_reducible exact Below.refl _ _ | with_reducible assumption | (with_reducible refine Below.drew ?_) | (with_reducible refine Below.alloc ?_ (by first | with_reducible exact Nat.le_refl _ | omega | (simp; done) | (simp; omega) | (simp [World.setCell]; omega) | (simp [World.setCell]; done)) _) | (with_reducible refine Below.setCell ?_ (by first | with_reducible exact Nat.le_refl _ | omega | (simp; done) | (simp; omega) | (simp [World.setCell]; omega) | (simp [World.setCell]; done)) _)))) (by rw [hR, h6]; rfl)
            · have hs2 := hs.next hlt (by rw [hw0]; exact hend) (by rw [hw0]; exact hq) h6
              have hout : outAt ps (k + 1) = outAt ps k ++ [(sTextStepL w0).1] := by rw [outAt_succ hlt, hw0]
              have h6a : ((k : Int) == 600) = false := by simp; omega
              have h6b : ¬ (k : Int) = 600 := by omega
              have hsix := hs.six
              have hz := hb.size
              have hbw : Below wr.heap.size wr W2 := (below_drewN' wr n1).trans (hb2.mono (by simp))
              have hfr2 : Fresh wr.heap.size W2 F1 := hfr.mono (by simp)
              have hbx := hbW.trans (hb2.mono hbW.size)
              have hz2 := hbx.size
              have hz3 := hbw.size
              clear hrb cc hb2 hbW hb hfr hs hne2 hlen hno
              go_wp2_with (at_builtin; go_must (refine wpList_grow (R := Rep.DStep) rfl _ _ 54 rfl wr 47 w.heap.size Tryd.underlying54 infoStep rfl (by decide) _ k (outAt ps k) rfl hg (by repeat (first | with_reducible exact Below.refl _ _ | with_reducible assumption | (with_reducible refine Below.drew ?_) | (with_reducible refine Below.alloc ?_ (by first | with_reducible exact Nat.le_refl _ | omega | (simp; done) | (simp; omega) | (simp [World.setCell]; omega) | (simp [World.setCell]; done)) _) | (with_reducible refine Below.setCell ?_ (by first | with_reducible exact Nat.le_refl _ | omega | (simp; done) | (simp; omega) | (simp [World.setCell]; omega) | (simp [World.setCell]; done)) _))) _ 1 _ _ [(sTextStepL w0).1] F1 rfl rfl (row_two _ _) (Rep.all_one_elem (Rep.below_all (R := Rep.DStep) hrd (by repeat (first | with_reducible exact Below.refl _ _ | with_reducible assumption | (with_reducible refine Below.drew ?_) | (with_reducible refine Below.alloc ?_ (by first | with_reducible exact Nat.le_refl _ | omega | (simp; done) | (simp; omega) | (simp [World.setCell]; omega) | (simp [World.setCell]; done)) _) | (with_reducible refine Below.setCell ?_ (by first | with_reducible exact Nat.le_refl _ | omega | (simp; done) | (simp; omega) | (simp [World.setCell]; omega) | (simp [World.setCell]; done)) _))))) (hfr2.below (by repeat (first | with_reducible exact Below.refl _ _ | with_reducible assumption | (with_reducible refine Below.drew ?_) | (with_reducible refine Below.alloc ?_ (by first | with_reducible exact Nat.le_refl _ | omega | (simp; done) | (simp; omega) | (simp [World.setCell]; omega) | (simp [World.setCell]; done)) _) | (with_reducible refine Below.setCell ?_ (by first | with_reducible exact Nat.le_refl _ | omega | (simp; done) | (simp; omega) | (simp [World.setCell]; omega) | (simp [World.setCell]; done)) _)))) hz (by omega) (by decide) ?_); intro A2 c2 w2 hg2 hb2 hgr2)
              have hg3 : Grow Rep.DStep 47 w.heap.size w2 (.slice A2 (k + 1) c2) (k + 1) (outAt ps (k + 1)) := by rw [hout]; exact hg2
              have hb3 : Below w.heap.size w w2 := Below.trans (b := W2) hbx (Below.trans (by repeat (first | with_reducible exact Below.refl _ _ | with_reducible assumption | (with_reducible refine Below.drew ?_) | (with_reducible refine Below.alloc ?_ (by first | with_reducible exact Nat.le_refl _ | omega | (simp; done) | (simp; omega) | (simp [World.setCell]; omega) | (simp [World.setCell]; done)) _) | (with_reducible refine Below.setCell ?_ (by first | with_reducible exact Nat.le_refl _ | omega | (simp; done) | (simp; omega) | (simp [World.setCell]; omega) | (simp [World.setCell]; done)) _))) hb2)
              clear hg hg2 hrd hfr2 hgr2
              exact ⟨⟨k + 1, A2, c2, hs2, rfl, rfl, by rw [hws], hg3, hb3⟩, by simp; omega⟩
      · have hk : k = ps.length := Nat.le_antisymm hs.le (by omega)
        have hR := hs.fin hk
        have hd : decide (k < ps.length) = false := by simpa using hlt
        have hj : joinL 10 (ps.drop k) = [] := by rw [List.drop_eq_nil_of_le (by omega)]; rfl
        have H : OutSlI Rep.DStep R w (.returned (.tuple #[.slice none 0 0, .int .i64 (-3)])) wr := OutSlI.nil hb hR
        rw [hj, hd]
        clear hg hb hs hst
        go_wp2
        go_ret2
        exact H
end Go.Proofs.YtlhanpkfnhnegaaDoor
/- Scripts read by the reference. -/
namespace Go.Proofs.YtlhanpkfnhnegaaDoor
open Go.RowKit

theorem neStr {a : List UInt8} : (!((⟨a.toArray⟩ : ByteArray).toList == (⟨#[]⟩ : ByteArray).toList)) = !a.isEmpty := by
  cases a <;> simp
def pScr (y : List DStep × Int) : AP := .tup [.one (.sl (y.1.map DStep.ds)), .one (dI y.2)]
set_option maxHeartbeats 2000000 in
theorem sTextScript_p (l : List UInt8) (hl : l.length ≤ 2000000) : PCall av 59 [pL l] (pScr (textScriptL l)) := by
  by_cases hlong : 20000 < l.length
  · have e : textScriptL l = ([], -2) := by unfold textScriptL; rw [if_pos hlong]
    have hlt : decide (((⟨l.toArray⟩ : ByteArray).size : Int) > 20000) = true := by rw [sz_dL]; simp; omega
    rw [e]
    unfold pScr
    refine pcall_of av_ok Tryd.func59 rfl Tryd.call59 Tryd.ntmps59 (congrArg Array.toList Tryd.results59) fun S => ?_; conv => whnf
    repeat' (first | (refine AWP.seq ?_) | (refine AWP.region av_ok ?_; conv => whnf) | (refine AWP.ret ?_; conv => whnf) | (refine AWP.skip ?_; conv => whnf) | (refine AWP.exit ?_; conv => whnf) | (refine AWP.block ?_; conv => whnf) | (refine AWP.cond ?_; conv => whnf) | (refine AB.tt ?_; conv => whnf) | (refine AB.ff ?_; conv => whnf) | (refine AB.ofT (by assumption) ?_; conv => whnf) | (refine AB.ofF (by assumption) ?_; conv => whnf) | (exact trivial) | (refine And.intro rfl ?_; conv => whnf) | (refine AB.mk (fun h => ?_) (fun h => ?_) <;> (conv => whnf)) | (with_reducible_and_instances rfl) | (exact (rfl : AP.tup _ = AP.tup _)))
  · have e : textScriptL l = scrL (wordsL 10 l) [] := by unfold textScriptL; rw [if_neg hlong]
    have hlt : decide (((⟨l.toArray⟩ : ByteArray).size : Int) > 20000) = false := by rw [sz_dL]; simp; omega
    have hne := wordsL_ne 10 l
    have hst := ScrAt.start hne
    have hjl : joinL 10 (wordsL 10 l) = l := join_words 10 l
    have hcnt := join_count (c := 10) (wordsL 10 l)
    rw [hjl] at hcnt
    rw [e]
    have sp := sl1Split_p l 10 hl
    generalize scrL (wordsL 10 l) [] = R at hst
    generalize wordsL 10 l = ps at *
    have hpos : 0 < ps.length := List.length_pos_iff.2 hne
    refine pcall_of av_ok Tryd.func59 rfl Tryd.call59 Tryd.ntmps59 (congrArg Array.toList Tryd.results59) fun S => ?_; conv => whnf
    repeat' (first | (refine AWP.seq ?_) | (refine AWP.region av_ok ?_; conv => whnf) | (refine AWP.ret ?_; conv => whnf) | (refine AWP.skip ?_; conv => whnf) | (refine AWP.exit ?_; conv => whnf) | (refine AWP.block ?_; conv => whnf) | (refine AWP.cond ?_; conv => whnf) | (refine AB.tt ?_; conv => whnf) | (refine AB.ff ?_; conv => whnf) | (refine AB.ofT (by assumption) ?_; conv => whnf) | (refine AB.ofF (by assumption) ?_; conv => whnf) | (refine ACall.pure sp rfl ?_; conv => whnf) | (refine AW.i64 (by simp only [decide_eq_true_eq, decide_eq_false_iff_not, List.length_map, Bool.not_eq_true', Bool.not_eq_false'] at *; omega) (by simp only [decide_eq_true_eq, decide_eq_false_iff_not, List.length_map, Bool.not_eq_true', Bool.not_eq_false'] at *; omega) ?_; conv => whnf) | (refine And.intro rfl ?_; conv => whnf))
    have hlast : ((ps.map eS).length : Int) - 1 = ((ps.length - 1 : Nat) : Int) := by simp; omega
    have hln : ps.length - 1 < ps.length := by omega
    have hgl : (ps.map eS)[ps.length - 1]? = some (eS ps[ps.length - 1]) := by simp [hln]
    refine AWP.loopS (fun k : Nat => ScrAt ps R k) (10 :: [2, 3, 4, 7, 8, 9, 20, 21, 22, 23, 24, 25, 26, 27, 28, 29, 30, 31, 32, 33, 34, 35, 36, 37, 38, 39, 40, 41, 42, 43, 44, 45, 46, 47, 48, 49, 50, 51, 52, 53, 54, 55, 56, 57, 58]) (fun k => [(4, .one (.own 10)), (7, vI .i64 (k : Int))]) (fun k => [(10, .row 47 5 ((outAt ps k).map DStep.ds))]) (fun k => ps.length - k) 0 hst ?_ (SubO.cons rfl SubO.nil) (fun k hs => ?_) <;> (conv => whnf)
    · repeat' (first | exact trivial | (refine And.intro rfl ?_; conv => whnf))
    · by_cases hlt : k < ps.length
      · have h1 : decide ((k : Int) < ((ps.map eS).length : Int)) = true := by simp [hlt]
        by_cases hend : k + 1 = ps.length ∧ ps[k] = []
        · have hR := (hs.mid hlt).trans (scr_end hlt hend.1 hend.2)
          have h2 : decide ((k : Int) < ((ps.map eS).length : Int) - 1) = false := by simp; omega
          have h3 : (!((⟨ps[k].toArray⟩ : ByteArray).toList == (⟨#[]⟩ : ByteArray).toList)) = false := by rw [neStr, hend.2]; rfl
          have h4 : (!((⟨ps[ps.length - 1].toArray⟩ : ByteArray).toList == (⟨#[]⟩ : ByteArray).toList)) = false := by
            have e : ps[ps.length - 1] = ps[k] := by congr 1; omega
            rw [e]; exact h3
          rw [hR]
          repeat' (first | (refine AWP.seq ?_) | (refine AWP.region av_ok ?_; conv => whnf) | (refine AWP.ret ?_; conv => whnf) | (refine AWP.skip ?_; conv => whnf) | (refine AWP.exit ?_; conv => whnf) | (refine AWP.block ?_; conv => whnf) | (refine AWP.cond ?_; conv => whnf) | (refine AB.tt ?_; conv => whnf) | (refine AB.ff ?_; conv => whnf) | (refine AB.ofT (by assumption) ?_; conv => whnf) | (refine AB.ofF (by assumption) ?_; conv => whnf) | (refine AIx.map hlt ?_; conv => whnf) | (refine AIx.at (ps.length - 1) _ hlast hgl ?_; conv => whnf) | (exact trivial) | (refine And.intro rfl ?_; conv => whnf) | (refine AB.mk (fun h => ?_) (fun h => ?_) <;> (conv => whnf)) | (with_reducible_and_instances rfl) | (exact (rfl : AP.tup _ = AP.tup _)))
        · have hrow : (outAt ps k).map DStep.ds ++ [(sTextStepL ps[k]).1.ds] = (outAt ps (k + 1)).map DStep.ds := by rw [outAt_succ hlt, List.map_append]; rfl
          have hol : ((outAt ps k).map DStep.ds).length = k := by rw [List.length_map, outAt_len ps hs.le]
          have sq := sTextStep_p ps[k]
          have hsix := hs.six
          cases hq : (sTextStepL ps[k]).2 with
          | false =>
            have hR := (hs.mid hlt).trans (scr_bad hlt hend (.inl hq))
            unfold pAns at sq
            rw [hq] at sq
            rw [hR]
            rcases Nat.lt_or_ge k (ps.length - 1) with h5 | h5
            · have h2 : decide ((k : Int) < ((ps.map eS).length : Int) - 1) = true := by simp; omega
              repeat' (first | (refine AWP.seq ?_) | (refine AWP.region av_ok ?_; conv => whnf) | (refine AWP.ret ?_; conv => whnf) | (refine AWP.skip ?_; conv => whnf) | (refine AWP.exit ?_; conv => whnf) | (refine AWP.block ?_; conv => whnf) | (refine AWP.cond ?_; conv => whnf) | (refine AB.tt ?_; conv => whnf) | (refine AB.ff ?_; conv => whnf) | (refine AB.ofT (by assumption) ?_; conv => whnf) | (refine AB.ofF (by assumption) ?_; conv => whnf) | (refine AIx.map hlt ?_; conv => whnf) | (refine AIx.at (ps.length - 1) _ hlast hgl ?_; conv => whnf) | (refine ACall.pure sq rfl ?_; conv => whnf) | (refine all_len hall ?_; conv => whnf) | (refine sz_app (by rw [hol]; simp only [List.length_cons, List.length_nil]; omega) ?_; conv => whnf) | (refine AW.i64 (by omega) (by omega) ?_; conv => whnf) | (exact trivial) | (refine And.intro rfl ?_; conv => whnf) | (refine AB.mk (fun h => ?_) (fun h => ?_) <;> (conv => whnf)) | (with_reducible_and_instances rfl) | (exact (rfl : AP.tup _ = AP.tup _)))
            · have h2 : decide ((k : Int) < ((ps.map eS).length : Int) - 1) = false := by simp; omega
              have h3 : (!((⟨ps[k].toArray⟩ : ByteArray).toList == (⟨#[]⟩ : ByteArray).toList)) = true := by
                rw [neStr]
                cases hp : ps[k] with
                | nil => exact absurd ⟨by omega, hp⟩ hend
                | cons a r => rfl
              repeat' (first | (refine AWP.seq ?_) | (refine AWP.region av_ok ?_; conv => whnf) | (refine AWP.ret ?_; conv => whnf) | (refine AWP.skip ?_; conv => whnf) | (refine AWP.exit ?_; conv => whnf) | (refine AWP.block ?_; conv => whnf) | (refine AWP.cond ?_; conv => whnf) | (refine AB.tt ?_; conv => whnf) | (refine AB.ff ?_; conv => whnf) | (refine AB.ofT (by assumption) ?_; conv => whnf) | (refine AB.ofF (by assumption) ?_; conv => whnf) | (refine AIx.map hlt ?_; conv => whnf) | (refine AIx.at (ps.length - 1) _ hlast hgl ?_; conv => whnf) | (refine ACall.pure sq rfl ?_; conv => whnf) | (refine all_len hall ?_; conv => whnf) | (refine sz_app (by rw [hol]; simp only [List.length_cons, List.length_nil]; omega) ?_; conv => whnf) | (refine AW.i64 (by omega) (by omega) ?_; conv => whnf) | (exact trivial) | (refine And.intro rfl ?_; conv => whnf) | (refine AB.mk (fun h => ?_) (fun h => ?_) <;> (conv => whnf)) | (with_reducible_and_instances rfl) | (exact (rfl : AP.tup _ = AP.tup _)))
          | true =>
            by_cases h6 : k = 600
            · have hR := (hs.mid hlt).trans (scr_bad hlt hend (.inr h6))
              unfold pAns at sq
              rw [hq] at sq
              have h7 : ((((outAt ps k).map DStep.ds).length : Int) == 600) = true := by rw [hol, h6]; rfl
              rw [hR]
              rcases Nat.lt_or_ge k (ps.length - 1) with h5 | h5
              · have h2 : decide ((k : Int) < ((ps.map eS).length : Int) - 1) = true := by simp; omega
                repeat' (first | (refine AWP.seq ?_) | (refine AWP.region av_ok ?_; conv => whnf) | (refine AWP.ret ?_; conv => whnf) | (refine AWP.skip ?_; conv => whnf) | (refine AWP.exit ?_; conv => whnf) | (refine AWP.block ?_; conv => whnf) | (refine AWP.cond ?_; conv => whnf) | (refine AB.tt ?_; conv => whnf) | (refine AB.ff ?_; conv => whnf) | (refine AB.ofT (by assumption) ?_; conv => whnf) | (refine AB.ofF (by assumption) ?_; conv => whnf) | (refine AIx.map hlt ?_; conv => whnf) | (refine AIx.at (ps.length - 1) _ hlast hgl ?_; conv => whnf) | (refine ACall.pure sq rfl ?_; conv => whnf) | (refine all_len hall ?_; conv => whnf) | (refine sz_app (by rw [hol]; simp only [List.length_cons, List.length_nil]; omega) ?_; conv => whnf) | (refine AW.i64 (by omega) (by omega) ?_; conv => whnf) | (exact trivial) | (refine And.intro rfl ?_; conv => whnf) | (refine AB.mk (fun h => ?_) (fun h => ?_) <;> (conv => whnf)) | (with_reducible_and_instances rfl) | (exact (rfl : AP.tup _ = AP.tup _)))
              · have h2 : decide ((k : Int) < ((ps.map eS).length : Int) - 1) = false := by simp; omega
                have h3 : (!((⟨ps[k].toArray⟩ : ByteArray).toList == (⟨#[]⟩ : ByteArray).toList)) = true := by
                  rw [neStr]
                  cases hp : ps[k] with
                  | nil => exact absurd ⟨by omega, hp⟩ hend
                  | cons a r => rfl
                repeat' (first | (refine AWP.seq ?_) | (refine AWP.region av_ok ?_; conv => whnf) | (refine AWP.ret ?_; conv => whnf) | (refine AWP.skip ?_; conv => whnf) | (refine AWP.exit ?_; conv => whnf) | (refine AWP.block ?_; conv => whnf) | (refine AWP.cond ?_; conv => whnf) | (refine AB.tt ?_; conv => whnf) | (refine AB.ff ?_; conv => whnf) | (refine AB.ofT (by assumption) ?_; conv => whnf) | (refine AB.ofF (by assumption) ?_; conv => whnf) | (refine AIx.map hlt ?_; conv => whnf) | (refine AIx.at (ps.length - 1) _ hlast hgl ?_; conv => whnf) | (refine ACall.pure sq rfl ?_; conv => whnf) | (refine all_len hall ?_; conv => whnf) | (refine sz_app (by rw [hol]; simp only [List.length_cons, List.length_nil]; omega) ?_; conv => whnf) | (refine AW.i64 (by omega) (by omega) ?_; conv => whnf) | (exact trivial) | (refine And.intro rfl ?_; conv => whnf) | (refine AB.mk (fun h => ?_) (fun h => ?_) <;> (conv => whnf)) | (with_reducible_and_instances rfl) | (exact (rfl : AP.tup _ = AP.tup _)))
            · have hs2 := hs.next hlt hend hq h6
              unfold pAns at sq
              rw [hq] at sq
              have h7 : ((((outAt ps k).map DStep.ds).length : Int) == 600) = false := by rw [hol]; simp; omega
              have hall : ∀ x ∈ [(sTextStepL ps[k]).1.ds], x.length = 5 := by simp [DStep.ds]
              rcases Nat.lt_or_ge k (ps.length - 1) with h5 | h5
              · have h2 : decide ((k : Int) < ((ps.map eS).length : Int) - 1) = true := by simp; omega
                repeat' (first | (refine AWP.seq ?_) | (refine AWP.region av_ok ?_; conv => whnf) | (refine AWP.ret ?_; conv => whnf) | (refine AWP.skip ?_; conv => whnf) | (refine AWP.exit ?_; conv => whnf) | (refine AWP.block ?_; conv => whnf) | (refine AWP.cond ?_; conv => whnf) | (refine AB.tt ?_; conv => whnf) | (refine AB.ff ?_; conv => whnf) | (refine AB.ofT (by assumption) ?_; conv => whnf) | (refine AB.ofF (by assumption) ?_; conv => whnf) | (refine AIx.map hlt ?_; conv => whnf) | (refine AIx.at (ps.length - 1) _ hlast hgl ?_; conv => whnf) | (refine ACall.pure sq rfl ?_; conv => whnf) | (refine all_len hall ?_; conv => whnf) | (refine sz_app (by rw [hol]; simp only [List.length_cons, List.length_nil]; omega) ?_; conv => whnf) | (refine AW.i64 (by omega) (by omega) ?_; conv => whnf) | (exact trivial) | (refine And.intro rfl ?_; conv => whnf) | (refine AB.mk (fun h => ?_) (fun h => ?_) <;> (conv => whnf)) | (with_reducible_and_instances rfl) | (exact (rfl : AP.tup _ = AP.tup _)))
                refine ANext.mk ⟨k + 1, hs2, by omega, ?_, SubO.cons (congrArg some (congrArg (AO.row 47 5) hrow)) SubO.nil⟩
                (conv => whnf); repeat' (first | exact trivial | (refine ⟨rfl, ?_⟩; conv => whnf))
              · have h2 : decide ((k : Int) < ((ps.map eS).length : Int) - 1) = false := by simp; omega
                have h3 : (!((⟨ps[k].toArray⟩ : ByteArray).toList == (⟨#[]⟩ : ByteArray).toList)) = true := by
                  rw [neStr]
                  cases hp : ps[k] with
                  | nil => exact absurd ⟨by omega, hp⟩ hend
                  | cons a r => rfl
                repeat' (first | (refine AWP.seq ?_) | (refine AWP.region av_ok ?_; conv => whnf) | (refine AWP.ret ?_; conv => whnf) | (refine AWP.skip ?_; conv => whnf) | (refine AWP.exit ?_; conv => whnf) | (refine AWP.block ?_; conv => whnf) | (refine AWP.cond ?_; conv => whnf) | (refine AB.tt ?_; conv => whnf) | (refine AB.ff ?_; conv => whnf) | (refine AB.ofT (by assumption) ?_; conv => whnf) | (refine AB.ofF (by assumption) ?_; conv => whnf) | (refine AIx.map hlt ?_; conv => whnf) | (refine AIx.at (ps.length - 1) _ hlast hgl ?_; conv => whnf) | (refine ACall.pure sq rfl ?_; conv => whnf) | (refine all_len hall ?_; conv => whnf) | (refine sz_app (by rw [hol]; simp only [List.length_cons, List.length_nil]; omega) ?_; conv => whnf) | (refine AW.i64 (by omega) (by omega) ?_; conv => whnf) | (exact trivial) | (refine And.intro rfl ?_; conv => whnf) | (refine AB.mk (fun h => ?_) (fun h => ?_) <;> (conv => whnf)) | (with_reducible_and_instances rfl) | (exact (rfl : AP.tup _ = AP.tup _)))
                refine ANext.mk ⟨k + 1, hs2, by omega, ?_, SubO.cons (congrArg some (congrArg (AO.row 47 5) hrow)) SubO.nil⟩
                (conv => whnf); repeat' (first | exact trivial | (refine ⟨rfl, ?_⟩; conv => whnf))
      · have hk : k = ps.length := Nat.le_antisymm hs.le (by omega)
        have hR := hs.fin hk
        have h1 : decide ((k : Int) < ((ps.map eS).length : Int)) = false := by simp; omega
        have h4 : (!((⟨ps[ps.length - 1].toArray⟩ : ByteArray).toList == (⟨#[]⟩ : ByteArray).toList)) = true := by
          rw [neStr]
          cases hp : ps[ps.length - 1] with
          | nil => exact absurd hp (hs.last hln hk)
          | cons a r => rfl
        rw [hR]
        repeat' (first | (refine AWP.seq ?_) | (refine AWP.region av_ok ?_; conv => whnf) | (refine AWP.ret ?_; conv => whnf) | (refine AWP.skip ?_; conv => whnf) | (refine AWP.exit ?_; conv => whnf) | (refine AWP.block ?_; conv => whnf) | (refine AWP.cond ?_; conv => whnf) | (refine AB.tt ?_; conv => whnf) | (refine AB.ff ?_; conv => whnf) | (refine AB.ofT (by assumption) ?_; conv => whnf) | (refine AB.ofF (by assumption) ?_; conv => whnf) | (refine AIx.at (ps.length - 1) _ hlast hgl ?_; conv => whnf) | (exact trivial) | (refine And.intro rfl ?_; conv => whnf) | (refine AB.mk (fun h => ?_) (fun h => ?_) <;> (conv => whnf)) | (with_reducible_and_instances rfl) | (exact (rfl : AP.tup _ = AP.tup _)))
end Go.Proofs.YtlhanpkfnhnegaaDoor
/- Data read by my representations; the reference's script in memory. -/
namespace Go.Proofs.YtlhanpkfnhnegaaDoor
open Go.ChangeShapes Go.WideShapes Go.RowKit

/-- Cells that relate to a datum's data read as it. -/
def Dec {α : Type} (R : Rep α) (enc : α → List AD) (ok : α → Prop) : Prop := (∀ a, (enc a).length = R.size) ∧ ∀ {Z : Nat → Prop} {w : World} {a : α} {cs : List Value}, ok a → (∀ b, Z b → b < w.heap.size) → cs.length = (enc a).length → (∀ (i : Nat) d u, (enc a)[i]? = some d → cs[i]? = some u → RelD Z w d u) → ∃ F, R.rd w cs a F
theorem Dec.int {k : IntKind} : Dec (Rep.int k) (fun n => [.pv (.int k n)]) (fun n => (Lit.int k n).wf = true) := by
  refine ⟨fun _ => rfl, fun {Z w a cs} h _ hl hr => ⟨[], ?_, h, rfl⟩⟩
  obtain ⟨y, rfl⟩ := List.length_eq_one_iff.1 hl
  have := relD_pl rfl (hr 0 _ y rfl rfl)
  rw [this]; rfl
theorem Dec.all {α : Type} {R : Rep α} {enc : α → List AD} {ok : α → Prop} (hd : Dec R enc ok) {Z : Nat → Prop} {w : World} (hz : ∀ b, Z b → b < w.heap.size) : ∀ (l : List α) (us : List (List Value)), (∀ a ∈ l, ok a) → us.length = l.length → (∀ u ∈ us, u.length = R.size) →
    (∀ (i j : Nat) x u a b, (l.map enc)[i]? = some x → us[i]? = some u → x[j]? = some a → u[j]? = some b → RelD Z w a b) → ∃ F, R.all w us.flatten l F
  | [], us, _, hl, _, _ => by
    have : us = [] := List.eq_nil_of_length_eq_zero hl
    subst this
    exact ⟨[], rfl, rfl⟩
  | a :: l, [], _, hl, _, _ => by simp at hl
  | a :: l, u :: us, ho, hl, hu, hr => by
    obtain ⟨F1, h1⟩ := hd.2 (ho a (by simp)) hz (by rw [hd.1, hu u (by simp)]) (fun i d v hd hv => hr 0 i (enc a) u d v (by simp) rfl hd hv)
    obtain ⟨F2, h2⟩ := Dec.all hd hz l us (fun x hx => ho x (by simp [hx])) (by simpa using hl) (fun x hx => hu x (by simp [hx])) (fun i j x v p q h3 h4 h5 h6 => hr (i + 1) j x v p q (by simpa using h3) (by simpa using h4) h5 h6)
    exact ⟨F1 ++ F2, u, us.flatten, F1, F2, by simp, rfl, h1, h2⟩
theorem Dec.row {α : Type} {R : Rep α} {enc : α → List AD} {ok : α → Prop} (hd : Dec R enc ok) {Z : Nat → Prop} {w : World} (hz : ∀ b, Z b → b < w.heap.size) {l : List α} (ho : ∀ a ∈ l, ok a) {v : Value} (h : RelD Z w (.sl (l.map enc)) v) :
    ∃ A cap F, v = .slice A l.length cap ∧ (Rep.sl R).rd w [.slice A l.length cap] l F := by
  obtain ⟨A, cap, s, us, rfl, h1, h2, h3, h4, h5, h6, h7⟩ := relD_sl h
  simp only [List.length_map] at h1 h3
  have hsz : ∀ u ∈ us, u.length = R.size := fun u hu => by
    rw [h5 u hu]
    cases l with
    | nil =>
      have : us = [] := List.eq_nil_of_length_eq_zero h3
      subst this
      cases hu
    | cons a l => rw [← h4 (enc a) (by simp), hd.1]
  obtain ⟨F, hF⟩ := Dec.all hd hz l us ho h3 hsz h7
  refine ⟨A, cap, _, by simp, A, cap, us.flatten, F, rfl, h1, h2, fun j hj => ?_, hF, rfl⟩
  rcases h6 with h6 | ⟨b, off, hA, hZ, hc⟩
  · rw [h6] at hj; cases hj
  · exact ⟨b, off, hA, hz b hZ, hc⟩
def stepWf (x : DStep) : Prop := (Lit.int .i64 x.kind).wf = true ∧ (Lit.int .i64 x.a).wf = true ∧ (Lit.int .i64 x.b).wf = true ∧ (Lit.int .i64 x.c).wf = true ∧ ∀ n ∈ x.fates, (Lit.int .i64 n).wf = true
theorem Dec.step : Dec Rep.DStep DStep.ds stepWf := by
  refine ⟨fun _ => rfl, fun {Z w x cs} ho hz hl hr => ?_⟩
  obtain ⟨wk, wa, wb, wc, wf⟩ := ho
  match cs, hl, hr with
  | [], hl, _ => simp [DStep.ds] at hl
  | [p], hl, _ => simp [DStep.ds] at hl
  | [p, q], hl, _ => simp [DStep.ds] at hl
  | [p, q, r], hl, _ => simp [DStep.ds] at hl
  | [p, q, r, s], hl, _ => simp [DStep.ds] at hl
  | p :: q :: r :: s :: t :: u :: y, hl, _ => simp [DStep.ds] at hl
  | [p, q, r, s, t], hl, hr =>
    have e0 : p = .int .i64 x.kind := relC_int (hr 0 _ p rfl rfl)
    have e1 : q = .int .i64 x.a := relC_int (hr 1 _ q rfl rfl)
    have e2 : r = .int .i64 x.b := relC_int (hr 2 _ r rfl rfl)
    have e3 : s = .int .i64 x.c := relC_int (hr 3 _ s rfl rfl)
    subst e0 e1 e2 e3
    obtain ⟨A, cap, F, rfl, hrd⟩ := Dec.row Dec.int hz (l := x.fates) wf (hr 4 _ t rfl rfl)
    exact ⟨F, DStep_make wk wa wb wc hrd⟩
theorem step_wf (l : List UInt8) : stepWf (sTextStepL l).1 := by
  obtain ⟨hk, ha, hb, hc, hf⟩ := step_small (l := l)
  exact ⟨i64_wf (by omega) (by omega), i64_wf (by omega) (by omega), i64_wf (by omega) (by omega), i64_wf (by omega) (by omega), fates_wf hf⟩
theorem scr_wf : ∀ (ps : List (List UInt8)) (out : List DStep), (∀ x ∈ out, stepWf x) → ∀ x ∈ (scrL ps out).1, stepWf x
  | [], out, h => h
  | [w], out, h => by
    unfold scrL
    split
    · exact h
    · split <;> simp
  | w :: v :: r, out, h => by
    unfold scrL
    split
    · simp
    · refine scr_wf (v :: r) _ fun x hx => ?_
      rcases List.mem_append.1 hx with hx | hx
      · exact h x hx
      · simp at hx
        subst hx
        exact step_wf w
theorem script_wf (l : List UInt8) : ∀ x ∈ (textScriptL l).1, stepWf x := by
  unfold textScriptL
  split
  · simp
  · exact scr_wf _ _ (by simp)
theorem sTextScript_calls (l : List UInt8) (hl : l.length ≤ 2000000) {w1 w : World} (hW : TabR w1) (hb : Below w1.heap.size w1 w) : Calls Tryd.prog 59 #[.string ⟨l.toArray⟩] w fun e w' =>
    ∃ A cap F, e = .returned (.tuple #[.slice A (textScriptL l).1.length cap, .int .i64 (textScriptL l).2]) ∧ (Rep.sl Rep.DStep).rd w' [.slice A (textScriptL l).1.length cap] (textScriptL l).1 F ∧ Below w.heap.size w w' := by
  have sp := sTextScript_p l hl
  have hwf := script_wf l
  generalize textScriptL l = y at sp hwf
  have := sp.run (fun b => b < w.heap.size) w [.string ⟨l.toArray⟩] (fun _ h => h) ⟨w1, hW, hb, fun b h => Nat.lt_of_lt_of_le h hb.size⟩ rfl fun i p u h1 h2 => by
    cases i with
    | zero =>
      simp at h1 h2
      subst h1 h2
      exact (show RelD _ _ (dL l) _ from .pv _ rfl)
    | succ i => simp at h1
  refine this.mono ?_
  rintro e w' ⟨v, Z', rfl, hbl, hz, hz2, us, rfl, hul, hr⟩
  match us, hul, hr with
  | [], hul, _ => simp at hul
  | [a], hul, _ => simp at hul
  | a :: b :: c :: r, hul, _ => simp at hul
  | [a, b], hul, hr =>
    have h1 : RelD Z' w' (.sl (y.1.map DStep.ds)) a := hr 0 _ a rfl rfl
    have h2 : b = .int .i64 y.2 := relC_int (hr 1 _ b rfl rfl)
    subst h2
    obtain ⟨A, cap, F, rfl, hrd⟩ := Dec.row Dec.step (fun b hb => by rcases hz2 b hb with h | h; exact Nat.lt_of_lt_of_le h hbl.size; exact h.2) hwf h1
    exact ⟨A, cap, F, rfl, hrd, hbl⟩
end Go.Proofs.YtlhanpkfnhnegaaDoor
/- TextScript: the law's walk. -/
namespace Go.Proofs.YtlhanpkfnhnegaaDoor
open Go.ChangeShapes Go.WideShapes Go.RowKit

theorem scr_all (P : DStep → Prop) (hP : ∀ l, P (sTextStepL l).1) : ∀ (ps : List (List UInt8)) (out : List DStep), (∀ x ∈ out, P x) → ∀ x ∈ (scrL ps out).1, P x
  | [], out, h => h
  | [w], out, h => by
    unfold scrL
    split
    · exact h
    · split <;> simp
  | w :: v :: r, out, h => by
    unfold scrL
    split
    · simp
    · refine scr_all P hP (v :: r) _ fun x hx => ?_
      rcases List.mem_append.1 hx with hx | hx
      · exact h x hx
      · simp at hx
        subst hx
        exact hP w
theorem scr_len : ∀ (ps : List (List UInt8)) (out : List DStep), (scrL ps out).1.length ≤ out.length + ps.length
  | [], out => by simp [scrL]
  | [w], out => by
    unfold scrL
    split
    · simp
    · split <;> simp
  | w :: v :: r, out => by
    unfold scrL
    split
    · simp
    · have := scr_len (v :: r) (out ++ [(sTextStepL w).1])
      simp only [List.length_append, List.length_cons, List.length_nil] at this ⊢
      omega
theorem cnt_le : ∀ (l : List DStep), (∀ x ∈ l, x.fates.length ≤ 120) → cntL cntStep l ≤ 124 * (l.length : Int)
  | [], _ => by simp [cntL]
  | x :: r, h => by
    have h1 := cnt_le r fun y hy => h y (by simp [hy])
    have h2 := h x (by simp)
    simp only [cntL, cntStep, cntI, List.length_cons]
    omega
theorem script_cnt (l : List UInt8) (hl : l.length ≤ 2000000) : cntL cntStep (textScriptL l).1 ≤ 1000000000 := by
  unfold textScriptL
  split
  · simp [cntL]
  · have h1 := cnt_le _ (scr_all (fun x => x.fates.length ≤ 120) (fun w => fatesB_l step_small.2.2.2.2) (wordsL 10 l) [] (by simp))
    have h2 := scr_len (wordsL 10 l) []
    have h3 := join_count (c := 10) (wordsL 10 l)
    rw [join_words] at h3
    simp only [List.length_nil] at h2
    omega
set_option maxHeartbeats 4000000 in
theorem lawTextScript_calls (l : List UInt8) (w : World) (hW : TabR w) : Calls Tryd.prog 14 #[.string ⟨l.toArray⟩] w fun e w' => e = .returned (.bool true) ∧ Below w.heap.size w w' := by
  have hz : (⟨l.toArray⟩ : ByteArray).size = l.length := by simp [ByteArray.size]
  by_cases hlong : 1048576 < l.length
  · go_enter Tryd.func14, Tryd.ntmps14
    go_wp2
    go_ret
    exact ⟨rfl, (by repeat (first | with_reducible exact Below.refl _ _ | with_reducible assumption | (with_reducible refine Below.drew ?_) | (with_reducible refine Below.alloc ?_ (by first | with_reducible exact Nat.le_refl _ | omega | (simp; done) | (simp; omega) | (simp [World.setCell]; omega) | (simp [World.setCell]; done)) _) | (with_reducible refine Below.setCell ?_ (by first | with_reducible exact Nat.le_refl _ | omega | (simp; done) | (simp; omega) | (simp [World.setCell]; omega) | (simp [World.setCell]; done)) _)))⟩
  · have hl : l.length ≤ 2000000 := by omega
    have hcnt := script_cnt l hl
    have hcnn := cntL_nonneg cntStep_nonneg (textScriptL l).1
    have sc := fun w' (hb : Below w.heap.size w w') => sTextScript_calls l hl hW hb
    have ic := fun w' (hw : TabR w') => iTextScript_calls l hl w' hw
    generalize textScriptL l = y at hcnt hcnn sc ic
    obtain ⟨g, x⟩ := y
    unfold OutSlI at ic
    simp only at hcnt hcnn sc ic
    go_enter Tryd.func14, Tryd.ntmps14
    go_wp2_with fail
    refine (sc _ (by repeat (first | with_reducible exact Below.refl _ _ | with_reducible assumption | (with_reducible refine Below.drew ?_) | (with_reducible refine Below.alloc ?_ (by first | with_reducible exact Nat.le_refl _ | omega | (simp; done) | (simp; omega) | (simp [World.setCell]; omega) | (simp [World.setCell]; done)) _) | (with_reducible refine Below.setCell ?_ (by first | with_reducible exact Nat.le_refl _ | omega | (simp; done) | (simp; omega) | (simp [World.setCell]; omega) | (simp [World.setCell]; done)) _)))).mono ?_; rintro e W1 ⟨A1, c1, F1, rfl, h1, hb1⟩
    go_wp2_with fail
    refine (ic _ (hW.below hb1)).mono ?_; rintro e W2 ⟨A2, c2, F2, rfl, h2, hf2, hb2⟩
    have hb := hb1.trans (hb2.mono hb1.size)
    have hW2 := hW.below hb
    have h1' := Rep.below_all h1 hb2
    have hlt1 := Rep.lt _ h1
    have hxx : (x != x) = false := by simp
    clear h1 sc
    go_wp2_with fail
    refine (leqStepS_same g A2 A1 c2 c1 F2 F1 _ h2 h1').mono ?_; rintro e W3 ⟨rfl, hb3⟩
    have hr2 : Res (Rep.sl Rep.DStep) W1.heap.size W3 [.slice A2 g.length c2] g F2 := (Res.mk h2 hf2).below hb3
    have h1'' := Rep.below_all h1' hb3
    have hbb := hb.trans (hb3.mono hb.size)
    clear h2 hf2 h1' hb hb3 hb2
    go_wp2_with fail
    refine (lmarkStepS_calls g A2 _ c2 F2 W1.heap.size _ 1 hr2 (by omega) (by omega)).mono ?_; rintro e W4 ⟨rfl, hr4, ht4⟩
    have h14 := ht4.rd h1'' (fun g hg hg' => by have := hlt1 g hg; have := (hr2.fresh.2 g hg').1; omega)
    have hbd := hbb.trans (ht4.below hbb.size (fun g hg => Nat.le_trans hb1.size (hr2.fresh.2 g hg).1))
    clear hr2 h1'' ht4 hbb
    go_wp2_with fail
    refine (lheldStepS_calls g A2 _ c2 F2 _ 1 hr4.rd (by omega) (by omega)).mono ?_; rintro e W5 ⟨rfl, hb5⟩
    have h15 := Rep.below_all h14 hb5
    have hr5 := hr4.below hb5
    have hbe := hbd.trans (hb5.mono hbd.size)
    clear h14 hr4 hbd hb5
    go_wp2_with fail
    refine (ic _ (hW.below hbe)).mono ?_; rintro e W6 ⟨A6, c6, F6, rfl, h6, hf6, hb6⟩
    have h16 := Rep.below_all h15 hb6
    have hr6 := hr5.below hb6
    have hbf := hbe.trans (hb6.mono hbe.size)
    clear h15 hr5 hb6 hbe hf6 ic
    go_wp2_with fail
    refine (leqStepS_same g A6 A1 c6 c1 F6 F1 _ h6 h16).mono ?_; rintro e W7 ⟨rfl, hb7⟩
    have hr7 := hr6.below hb7
    have hbg := hbf.trans (hb7.mono hbf.size)
    clear h6 h16 hr6 hb7 hbf
    go_wp2_with fail
    refine (lheldStepS_calls g A2 _ c2 F2 _ 1 hr7.rd (by omega) (by omega)).mono ?_; rintro e W8 ⟨rfl, hb8⟩
    have hbh := hbg.trans (hb8.mono hbg.size)
    clear hr7 hb8 hbg hb1 hlt1
    go_wp2_with fail
    go_ret
    exact ⟨rfl, hbh⟩
end Go.Proofs.YtlhanpkfnhnegaaDoor
