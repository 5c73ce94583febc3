/- Contracts proved by walks, as contracts over data; the range predicates. -/
import Derived.Test.YtlhanpkfnhnegaaDoorAvEnv
import Derived.Test.YtlhanpkfnhnegaaDoorAvJ3
import Derived.Test.YtlhanpkfnhnegaaDoorText3b
import Derived.Test.YtlhanpkfnhnegaaDoorNodes
set_option linter.unusedVariables false
set_option linter.unusedSimpArgs false
set_option maxRecDepth 100000
namespace Go.Proofs.YtlhanpkfnhnegaaDoor
open Go.ChangeShapes Go.WideShapes Go.RowKit

def pvOf : AD → Value
  | .pv v => v
  | _ => undef
def AD.isPv : AD → Bool
  | .pv _ => true
  | _ => false
def AP1.pl : AP1 → Value
  | .one d => pvOf d
  | .agg ds => .agg (ds.map pvOf).toArray
def AP1.isPl : AP1 → Bool
  | .one d => d.isPv
  | .agg ds => ds.all AD.isPv
theorem relD_pl {Z : Nat → Prop} {w : World} {d : AD} {u : Value} (h : d.isPv = true) (hr : RelD Z w d u) : u = pvOf d := by
  cases hr with
  | pv => rfl
  | sl => cases h
theorem relP_pl {Z : Nat → Prop} {w : World} {p : AP1} {u : Value} (h : p.isPl = true) (hr : RelP1 Z w p u) : u = p.pl := by
  cases p with
  | one d => exact relD_pl h hr
  | agg ds =>
    obtain ⟨us, rfl, hl, hh⟩ := hr
    have : us = ds.map pvOf := by
      apply List.ext_getElem? 
      intro i
      rw [List.getElem?_map]
      cases hd : ds[i]? with
      | none => rw [List.getElem?_eq_none]; rfl; rw [hl]; exact List.getElem?_eq_none_iff.1 hd
      | some d =>
        have hlt : i < us.length := by rw [hl]; exact (List.getElem?_eq_some_iff.1 hd).1
        rw [List.getElem?_eq_getElem hlt]
        have hp : d.isPv = true := List.all_eq_true.1 h d (List.mem_of_getElem? hd)
        simp [relD_pl hp (hh i d us[i] hd (List.getElem?_eq_getElem hlt))]
    rw [this]
    rfl
theorem gz_w {E : AEnv} (he : E.Ok) {Z : Nat → Prop} {w : World} (h : GZ E.W Z w) : E.W w := by
  obtain ⟨w1, h1, h2, _⟩ := h
  exact he.below w1 w h1 h2
/-- A contract on values alone. -/
theorem PCall.plain {E : AEnv} (he : E.Ok) {f : FuncId} {args : List AP1} {v : Value} (enter : ∀ (us : Array Value) w, (callFunc f us).run E.P w = .ok (.enter f us) w) (hp : args.all AP1.isPl = true) (hv : v.oneCell' = true)
    (h : ∀ w, E.W w → Calls E.P f (args.map AP1.pl).toArray w fun e w' => e = .returned v ∧ Below w.heap.size w w') : PCall E f args (.val (.one (.pv v))) := by
  refine ⟨enter, fun Z w us hz hg hl hr => ?_⟩
  have : us = args.map AP1.pl := by
    apply List.ext_getElem?
    intro i
    rw [List.getElem?_map]
    cases hd : args[i]? with
    | none => rw [List.getElem?_eq_none]; rfl; rw [hl]; exact List.getElem?_eq_none_iff.1 hd
    | some d =>
      have hlt : i < us.length := by rw [hl]; exact (List.getElem?_eq_some_iff.1 hd).1
      rw [List.getElem?_eq_getElem hlt]
      have hp : d.isPl = true := List.all_eq_true.1 hp d (List.mem_of_getElem? hd)
      simp [relP_pl hp (hr i d us[i] hd (List.getElem?_eq_getElem hlt))]
  subst this
  refine (h w (gz_w he hg)).mono ?_
  rintro e w' ⟨rfl, hb⟩
  exact ⟨v, Z, rfl, hb, fun _ h => h, fun _ h => .inl h, .pv v hv⟩
theorem below_eq {w w' : World} (h : w = w') : Below w.heap.size w w' := by subst h; exact Below.refl _ _

theorem ikeyOk_p (x : Int) : PCall av 117 [pI x] (rB (betweenB x 0 9)) := PCall.plain av_ok Tryd.call117 rfl rfl fun w _ => (ikeyOk_calls x w _ rfl).mono fun e w' h => ⟨h.1, by first | exact h.2 | exact below_eq h.2⟩
theorem ivalueOk_p (x : Int) : PCall av 118 [pI x] (rB (betweenB x 0 999)) := PCall.plain av_ok Tryd.call118 rfl rfl fun w _ => (ivalueOk_calls x w _ rfl).mono fun e w' h => ⟨h.1, by first | exact h.2 | exact below_eq h.2⟩
theorem iidOk_p (x : Int) : PCall av 119 [pI x] (rB (betweenB x 1 20)) := PCall.plain av_ok Tryd.call119 rfl rfl fun w _ => (iidOk_calls x w _ rfl).mono fun e w' h => ⟨h.1, by first | exact h.2 | exact below_eq h.2⟩
theorem iseqOk_p (x : Int) : PCall av 129 [pI x] (rB (betweenB x 1 2000)) := PCall.plain av_ok Tryd.call129 rfl rfl fun w _ => (iseqOk_calls x w _ rfl).mono fun e w' h => ⟨h.1, by first | exact h.2 | exact below_eq h.2⟩
theorem iindexOk_p (x : Int) : PCall av 127 [pI x] (rB (betweenB x 1 2000)) := PCall.plain av_ok Tryd.call127 rfl rfl fun w _ => (iindexOk_calls x w _ rfl).mono fun e w' h => ⟨h.1, by first | exact h.2 | exact below_eq h.2⟩
theorem iTimeOk_p (x : Int) : PCall av 120 [pI x] (rB (betweenB x 0 1000000)) := PCall.plain av_ok Tryd.call120 rfl rfl fun w _ => (iTimeOk_calls x w _ rfl).mono fun e w' h => ⟨h.1, by first | exact h.2 | exact below_eq h.2⟩
theorem iAskerOk_p (x : Int) : PCall av 128 [pI x] (rB (betweenB x 2 5)) := PCall.plain av_ok Tryd.call128 rfl rfl fun w _ => (iAskerOk_calls x w _ rfl).mono fun e w' h => ⟨h.1, by first | exact h.2 | exact below_eq h.2⟩
theorem sl7Key_p (x : Int) : PCall av 112 [pI x] (rB (betweenB x 0 9)) := PCall.plain av_ok Tryd.call112 rfl rfl fun w _ => (sl7Key_calls x w _ rfl).mono fun e w' h => ⟨h.1, by first | exact h.2 | exact below_eq h.2⟩
theorem sl7Value_p (x : Int) : PCall av 113 [pI x] (rB (betweenB x 0 999)) := PCall.plain av_ok Tryd.call113 rfl rfl fun w _ => (sl7Value_calls x w _ rfl).mono fun e w' h => ⟨h.1, by first | exact h.2 | exact below_eq h.2⟩
theorem sl7Id_p (x : Int) : PCall av 114 [pI x] (rB (betweenB x 1 20)) := PCall.plain av_ok Tryd.call114 rfl rfl fun w _ => (sl7Id_calls x w _ rfl).mono fun e w' h => ⟨h.1, by first | exact h.2 | exact below_eq h.2⟩
theorem sl7Seq_p (x : Int) : PCall av 124 [pI x] (rB (betweenB x 1 2000)) := PCall.plain av_ok Tryd.call124 rfl rfl fun w _ => (sl7Seq_calls x w _ rfl).mono fun e w' h => ⟨h.1, by first | exact h.2 | exact below_eq h.2⟩
theorem sl7Index_p (x : Int) : PCall av 122 [pI x] (rB (betweenB x 1 2000)) := PCall.plain av_ok Tryd.call122 rfl rfl fun w _ => (sl7Index_calls x w _ rfl).mono fun e w' h => ⟨h.1, by first | exact h.2 | exact below_eq h.2⟩
theorem sTimeOk_p (x : Int) : PCall av 115 [pI x] (rB (betweenB x 0 1000000)) := PCall.plain av_ok Tryd.call115 rfl rfl fun w _ => (sTimeOk_calls x w _ rfl).mono fun e w' h => ⟨h.1, by first | exact h.2 | exact below_eq h.2⟩
theorem sAskerOk_p (x : Int) : PCall av 123 [pI x] (rB (betweenB x 2 5)) := PCall.plain av_ok Tryd.call123 rfl rfl fun w _ => (sAskerOk_calls x w _ rfl).mono fun e w' h => ⟨h.1, by first | exact h.2 | exact below_eq h.2⟩
theorem sl22Node_p (x : Int) : PCall av 135 [pI x] (rB (betweenB x 0 5)) := PCall.plain av_ok Tryd.call135 rfl rfl fun w _ => (sl22Node_calls x w _ rfl).mono fun e w' h => ⟨h.1, by first | exact h.2 | exact below_eq h.2⟩

theorem relD_sl {Z : Nat → Prop} {w : World} {xs : List (List AD)} {v : Value} (h : RelD Z w (.sl xs) v) : ∃ (A : Option Addr) (cap s : Nat) (us : List (List Value)), v = .slice A xs.length cap ∧ xs.length ≤ cap ∧ cap ≤ maxLen ∧ us.length = xs.length ∧ (∀ x ∈ xs, x.length = s) ∧ (∀ u ∈ us, u.length = s) ∧ RowZ Z w A us.flatten ∧
    ∀ (i j : Nat) x u a b, xs[i]? = some x → us[i]? = some u → x[j]? = some a → u[j]? = some b → RelD Z w a b := by
  cases h with
  | sl _ A cap s us h1 h2 h3 h4 h5 h6 h7 => exact ⟨A, cap, s, us, rfl, h1, h2, h3, h4, h5, h6, h7⟩
theorem flat_ones {α β : Type} (f : α → β) : ∀ l : List α, (l.map fun x => [f x]).flatten = l.map f
  | [] => rfl
  | x :: r => by rw [List.map_cons, List.flatten_cons, flat_ones f r]; rfl
/-- A list of one-cell data in memory: its row. -/
theorem relD_row {Z : Nat → Prop} {w : World} {α : Type} {l : List α} {f : α → Value} {v : Value} (h : RelD Z w (.sl (l.map fun x => [AD.pv (f x)])) v) (hz : ∀ b, Z b → b < w.heap.size) :
    ∃ A cap, v = .slice A l.length cap ∧ l.length ≤ cap ∧ cap ≤ maxLen ∧ Row w A (l.map f) := by
  obtain ⟨A, cap, s, us, rfl, h1, h2, h3, h4, h5, h6, h7⟩ := relD_sl h
  simp only [List.length_map] at h1 h3 ⊢
  refine ⟨A, cap, rfl, h1, h2, ?_⟩
  have hus : us = l.map fun x => [f x] := by
    apply List.ext_getElem?
    intro i
    rw [List.getElem?_map]
    cases hd : l[i]? with
    | none => rw [List.getElem?_eq_none]; rfl; rw [h3]; exact List.getElem?_eq_none_iff.1 hd
    | some x =>
      have hlt : i < us.length := by rw [h3]; exact (List.getElem?_eq_some_iff.1 hd).1
      rw [List.getElem?_eq_getElem hlt]
      have hx : (l.map fun x => [AD.pv (f x)])[i]? = some [AD.pv (f x)] := by simp [hd]
      have hs : s = 1 := (h4 _ (List.mem_of_getElem? hx)).symm
      have hu := h5 us[i] (List.getElem_mem hlt)
      rw [hs] at hu
      obtain ⟨y, hy⟩ := List.length_eq_one_iff.1 hu
      have := relD_pl rfl (h7 i 0 _ _ _ y hx (List.getElem?_eq_getElem hlt) rfl (by rw [hy]; rfl))
      simp [hy, this, pvOf]
  have hfl : us.flatten = l.map f := by
    rw [hus]
    exact flat_ones f l
  rw [hfl] at h6
  intro j hj
  rcases h6 with h6 | ⟨b, off, hA, hZ, hc⟩
  · rw [h6] at hj; simp at hj
  · exact ⟨b, off, hA, hz b hZ, hc⟩
theorem inumeral_p (n : Int) (h0 : -9223372036854775808 ≤ n) (h1 : n ≤ 9223372036854775807) : PCall av 76 [pI n] (rL (Lib.itoa n)) := PCall.plain av_ok Tryd.call76 rfl rfl fun w ht => inumeral_calls n w h0 h1 ht.1
theorem ispaced_p (l : List Int) (hw : ∀ x ∈ l, (Lit.int .i64 x).wf = true) (hl : l.length ≤ 1000) : PCall av 70 [.one (dIs l)] (rL (spacedB l)) := by
  refine ⟨Tryd.call70, fun Z w us hz hg hl' hr => ?_⟩
  obtain ⟨u, rfl⟩ := List.length_eq_one_iff.1 hl'
  have h := hr 0 _ u rfl rfl
  obtain ⟨A, cap, rfl, h1, h2, hrow⟩ := relD_row (f := fun n => .int .i64 n) h hz
  have hrd : (Rep.sl (Rep.int .i64)).rd w [.slice A l.length cap] l (headOf A (l.map fun n => Value.int .i64 n) ++ []) := ⟨A, cap, _, [], rfl, h1, h2, hrow, ints_all w .i64 l hw, rfl⟩
  refine (ispaced_calls l A l.length cap _ w hrd (gz_w av_ok hg).1 hl).mono ?_
  rintro e w' ⟨rfl, hb⟩
  exact ⟨_, Z, rfl, hb, fun _ h => h, fun _ h => .inl h, .pv _ rfl⟩
abbrev eS (s : List UInt8) : List AD := [dL s]
theorem sl1Words_p (l : List (List UInt8)) (by_ : List UInt8) (hl : l.length ≤ 100000000) (hlen : (wordsB by_ l).length ≤ 1000000000) (hby : by_.length ≤ 1000) : PCall av 67 [.one (.sl (l.map eS)), pL by_] (rL (wordsB by_ l)) := by
  refine ⟨Tryd.call67, fun Z w us hz hg hl' hr => ?_⟩
  match us, hl' with
  | [u, u2], _ =>
  have h := hr 0 _ u rfl rfl
  have h2 : u2 = .string ⟨by_.toArray⟩ := relD_pl rfl (hr 1 _ u2 rfl rfl)
  subst h2
  obtain ⟨A, cap, rfl, h1, h2, hrow⟩ := relD_row (f := fun s : List UInt8 => Value.string ⟨s.toArray⟩) (l := l) h hz
  refine (sl1Words_calls l by_ A l.length cap w hrow rfl hl hlen hby).mono ?_
  rintro e w' ⟨rfl, hb⟩
  exact ⟨_, Z, rfl, below_eq hb, fun _ h => h, fun _ h => .inl h, .pv _ rfl⟩
theorem sl1Int_p (n : Nat) (h1 : n ≤ 1000000000000) : PCall av 66 [pI n] (rL (Lib.itoa n)) := PCall.plain av_ok Tryd.call66 rfl rfl fun w _ => by
  have := sl1Int_calls n w h1
  rwa [show Lib.decDigits n = Lib.itoa n by simp [Lib.itoa]] at this
theorem iOpOk_p (o : DOp) : PCall av 68 [.agg [dI o.kind, dI o.a, dI o.b, dI o.c, dI o.d]] (rB (opOk o)) := PCall.plain av_ok Tryd.call68 rfl rfl fun w _ => (iOpOk_calls o w _ rfl).mono fun e w' h => ⟨h.1, by first | exact h.2 | exact below_eq h.2⟩
theorem sOpOk_p (o : DOp) : PCall av 63 [.agg [dI o.kind, dI o.a, dI o.b, dI o.c, dI o.d]] (rB (opOk o)) := PCall.plain av_ok Tryd.call63 rfl rfl fun w _ => (sOpOk_calls o w _ rfl).mono fun e w' h => ⟨h.1, by first | exact h.2 | exact below_eq h.2⟩
end Go.Proofs.YtlhanpkfnhnegaaDoor
