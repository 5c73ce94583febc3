/- Proved: the program's StepWords returns what the reference's returns, for every code; the row's condition (tables of the library) is tied to the program's text by the card. -/
import Derived.Test.YtlhanpkfnhnegaaDoorLawLaid
import Derived.Test.YtlhanpkfnhnegaaDoorAvJA
import Derived.Test.YtlhanpkfnhnegaaDoorAvQ
import Derived.Test.YtlhanpkfnhnegaaDoorTrodT
import Derived.Test.YtlhanpkfnhnegaaDoorCards
import Derived.Test.YtlhanpkfnhnegaaDoorTie
import Derived.SevenTiedAt
import Derived.MakeChecks
set_option linter.unusedVariables false
set_option linter.unusedSimpArgs false
namespace Go.Proofs.YtlhanpkfnhnegaaDoor.lawStepWords
open Go.ChangeShapes Go.WideShapes Go.RowKit

theorem u8_all {w : World} : ∀ {l : List Int} {xs : List Value} {F : List Nat}, (Rep.int .u8).all w xs l F → ∀ x ∈ l, 0 ≤ x ∧ x ≤ 255
  | [], _, _, _, x, hx => by cases hx
  | a :: l, _, _, ⟨c1, c2, F1, F2, rfl, rfl, h1, h2⟩, x, hx => by
    rcases List.mem_cons.1 hx with rfl | hx
    · have hw := h1.2.1
      have e1 : IntKind.u8.min = 0 := by decide
      have e2 : IntKind.u8.max = 255 := by decide
      simp only [Lit.wf, Bool.and_eq_true, decide_eq_true_eq, e1, e2] at hw
      omega
    · exact u8_all h2 x hx

/-- The heap that the door's own run leaves meets the row's condition. -/
theorem door_met (os : Os) (args : Array Value) : laidMetH Tryd.prog Rows.fnStepWordsRow.laid ((World.doorLaid Tryd.prog 72 os).forCall (fun _ _ => 0) ⟨#[], args, []⟩).memory :=
  laidMetH_of_parts3 (fuel := 8) (laidMet_of_run' 8 (by kernel_rfl) (by kernel_rfl)) (by kernel_rfl) (by kernel_rfl)
theorem tab_of {W : World} (h : laidMetH Tryd.prog Rows.fnStepWordsRow.laid W) : Tab W := by
  rw [MakeChecks.laidMetH_plain _ _ _ (by kernel_rfl)] at h
  exact tab_of_laid rfl (by kernel_rfl) h

set_option maxRecDepth 100000 in
theorem lifted (os : Os) (started : os.Started) (H : Type) (enc : TypeId × Value → H) :
    ReturnsInHanded {} Tryd.checked os 13 .any (fun w args => (Rows.fnStepWordsSpec.pre enc Tryd.prog Tryd.f13 [] false w args ∧ laidMetH Tryd.prog Rows.fnStepWordsRow.laid w) ∧ sizedMet enc Tryd.prog Tryd.f13 (OpenSpec.ofChange Rows.fnStepWordsSpec) false w args) (Rows.fnStepWordsSpec.post enc Tryd.prog Tryd.f13 false true false false) := by
  refine law_lifted_laid (L := Rows.fnStepWordsRow.laid) (C := Tryd.checked) (tb := 4) (by kernel_rfl) started (by kernel_rfl) Tryd.func13 (by kernel_rfl) (by kernel_rfl) rfl (by kernel_rfl) Tryd.underlying4 ?_
    (ChangeSpec.witness_shaped (enc := enc) (C := Tryd.checked) (os := os) (X := fun w _ => laidMetH Tryd.prog Rows.fnStepWordsRow.laid w) false (World.doorLaid Tryd.prog 72 os) #[.slice none 0 0] 8 rfl (World.shaped_of_RefB (by kernel_rfl) (by kernel_rfl)) (by kernel_rfl) (by kernel_rfl) (by kernel_rfl) (door_met os _)) ?_
  · intro ds h
    match ds, h with
    | [d], _ => rfl
  · intro W base args ds p hval hA hfz hsh hL
    rw [Tryd.params13] at hA hval
    obtain ⟨v0, vs0, d0, ds0, p0, q0, hargs, rfl, rfl, h0, r0⟩ := trodAll_cons hA
    obtain ⟨rfl, rfl, rfl⟩ := trodAll_nil r0
    obtain rfl : args = #[v0] := by cases args; simp_all
    obtain ⟨a0, len, cap, rfl⟩ := okWide_slice Tryd.underlying76 (hval 0 76 v0 rfl rfl)
    obtain ⟨fuel, hf⟩ := h0
    obtain ⟨l, F, hrd⟩ := treads_sl (R := Rep.int .u8) Tryd.underlying76 (by kernel_rfl) (treads_int Tryd.underlying5) H enc W 0 _ _ fuel _ _ hf
    have hrd0 := hrd
    obtain ⟨A, cap0, xs, F1, hv, hc, hm, hrow, hall, rfl⟩ := hrd0
    exact (lawStepWords_p l (u8_all hall)).walk (tabR_of hsh (tab_of hL)) rfl fun i p u hp hu => by
      cases i with
      | zero =>
        simp at hp hu
        subst hp hu
        exact Enc.cell (f := fun l => .sl (l.map eU)) (Enc.sl Enc.int) hrd
      | succ i => simp at hp

theorem said : Rows.FnStepWordsSaid :=
  OpenClaim.holds_of_wide 13 Tryd.f13 rfl rfl rfl rfl rfl rfl rfl ⟨rfl, rfl, rfl, rfl, rfl⟩ rfl rfl rfl rfl rfl (by kernel_rfl) Tryd.func13 (by kernel_rfl)
    (of_decide_eq_true (by kernel_rfl)) (by unfold Func.isWrapper; first | (rw [if_pos (by decide +kernel)]; kernel_rfl) | (rw [if_neg (by decide +kernel)]; exact ⟨rfl, rfl⟩))
    (fun os started H enc _ => lifted os started H enc)
#print axioms said
end Go.Proofs.YtlhanpkfnhnegaaDoor.lawStepWords
