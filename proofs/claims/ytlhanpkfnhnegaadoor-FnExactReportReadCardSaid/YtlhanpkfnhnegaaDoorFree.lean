/- Calls with objects, seen from the old style: what they make lies in new memory. -/
import Derived.Test.YtlhanpkfnhnegaaDoorAvT1
import Derived.Test.YtlhanpkfnhnegaaDoorAvR
import Derived.Test.YtlhanpkfnhnegaaDoorAvJ4
import Derived.Test.YtlhanpkfnhnegaaDoorStep
import Derived.Test.YtlhanpkfnhnegaaDoorGrowD
set_option linter.unusedVariables false
set_option linter.unusedSimpArgs false
set_option maxRecDepth 100000
namespace Go.Proofs.YtlhanpkfnhnegaaDoor
open Go.ChangeShapes Go.WideShapes Go.RowKit

/-- A call that is handed no objects, from any world behind a good one. -/
theorem MCall.free {E : AEnv} {f : FuncId} {args : List AA} {post : List (Nat × AO)} {res : AR} (hc : MCall E f args [] post [] res) {w1 w : World} (hW : E.W w1) (hb : Below w1.heap.size w1 w) (us : List Value) (hl : us.length = args.length)
    (hr : ∀ (i : Nat) x u, args[i]? = some x → us[i]? = some u → RelV (fun b => b < w.heap.size) w (fun _ => undef) x.v u) :
    Calls E.P f us.toArray w fun e w' => ∃ v Z' ρ', e = .returned v ∧ Below w.heap.size w w' ∧ WS E.W (baseM w (fun b => b < w.heap.size) (fun _ => undef) []) Z' w' ρ' post ∧ RelV Z' w' ρ' res.v v := by
  have hw0 : WS E.W (baseM w (fun b => b < w.heap.size) (fun _ => undef) []) (fun b => b < w.heap.size) w (fun _ => undef) [] :=
    ⟨rfl, rfl, rfl, Nat.le_refl _, fun _ _ _ => rfl, fun _ h => h, fun _ _ _ h => (by cases h), fun _ _ _ _ _ h => (by cases h), fun _ _ h => (by cases h), ⟨w1, hW, hb, fun b h => Nat.lt_of_lt_of_le h hb.size⟩, fun _ h => h, fun _ h => .inl h⟩
  refine (hc.run _ w _ us hw0 hl hr).mono ?_
  rintro e w' ⟨v, Z', ρ', rfl, hw, _, hv⟩
  refine ⟨v, Z', ρ', rfl, ⟨hw.os, hw.tape, hw.output, hw.size, fun b hb => hw.old b hb ?_⟩, hw, hv⟩
  rintro ⟨id, o, h, _⟩
  cases h
theorem relC_int {Z : Nat → Prop} {w : World} {x : Int} {u : Value} (h : RelD Z w (dI x) u) : u = .int .i64 x := relD_pl rfl h
/-- A row of numbers that the call made. -/
theorem row_new {T : World → Prop} {Z' : Nat → Prop} {w w' : World} {ρ ρ' : Nat → Value} {Z : Nat → Prop} {post : List (Nat × AO)} (h : WS T (baseM w Z ρ []) Z' w' ρ' post) {id : Nat} {l : List Int} (ho : oget post id = some (.row 2 1 (l.map eI))) (hw : ∀ x ∈ l, (Lit.int .i64 x).wf = true) :
    ∃ A cap F, ρ' id = .slice A l.length cap ∧ Res (Rep.sl (Rep.int .i64)) w.heap.size w' [.slice A l.length cap] l F := by
  obtain ⟨us, _, h1, h2, h3, hown, hd⟩ := h.obj id _ ho
  have hus : us.flatten = l.map (Value.int .i64) := by
    have e : us = l.map fun x => [Value.int .i64 x] := by
      apply List.ext_getElem
      · simpa using h1
      · intro i g1 g2
        have hi : i < l.length := by simpa using g2
        have hl1 := h3 us[i] (List.getElem_mem g1)
        obtain ⟨y, hy⟩ := List.length_eq_one_iff.1 hl1
        have := hd i 0 (eI l[i]) us[i] (dI l[i]) y (by simp [hi]) (by simp [g1]) rfl (by rw [hy]; rfl)
        rw [List.getElem_map, hy, relC_int this]
    rw [e, flat_ones]
  rw [hus] at hown
  have hn : (l.map eI).length = l.length := by simp
  rw [hn] at hown
  have hall := ints_all w' .i64 l hw
  obtain ⟨A, cap, hv, hrd, hbl⟩ := Rep.sl_own (R := Rep.int .i64) hown hall rfl
  refine ⟨A, cap, _, hv, by rw [← hv]; exact hrd, ?_, fun b hb => ?_⟩
  · rw [List.append_nil]
    unfold headOf
    split
    · simp
    · split <;> simp
  · rw [List.append_nil] at hb
    have hblk : blkOf (ρ' id) = some b := by
      unfold headOf at hb
      split at hb
      · cases hb
      · split at hb
        · rw [hv]
          simp at hb
          simp [blkOf, hb]
        · cases hb
    refine ⟨?_, ?_⟩
    · rcases (h.mine id _ b ho hblk).2 with h | ⟨_, _, h, _⟩
      · exact h
      · cases h
    · rcases hown.2 with ⟨hv2, _⟩ | ⟨g, cap2, cur, hv2, _, hg, _⟩
      · rw [hv2] at hblk
        simp [blkOf] at hblk
      · rw [hv2] at hblk
        simp [blkOf] at hblk
        subst hblk
        exact ⟨cur, _, hg⟩
theorem relV_tup2 {Z : Nat → Prop} {w : World} {ρ : Nat → Value} {a b : AV} {v : Value} (h : RelV Z w ρ (.tup [a, b]) v) : ∃ x y, v = .tuple #[x, y] ∧ RelV Z w ρ a x ∧ RelV Z w ρ b y := by
  cases h with
  | tup _ us hl h =>
    match us, hl, h with
    | [], hl, _ => simp at hl
    | [x], hl, _ => simp at hl
    | x :: y :: z :: r, hl, _ => simp at hl
    | [x, y], hl, h => exact ⟨x, y, rfl, h 0 _ _ rfl rfl, h 1 _ _ rfl rfl⟩
end Go.Proofs.YtlhanpkfnhnegaaDoor
