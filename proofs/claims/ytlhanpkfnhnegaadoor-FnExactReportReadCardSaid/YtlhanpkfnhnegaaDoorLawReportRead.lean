/- Proved: the program's ReportRead returns what the reference's returns, for every text; the row's condition (tables of the library) is tied to the program's text by the card. -/
import Derived.Test.YtlhanpkfnhnegaaDoorLawLaid
import Derived.Test.YtlhanpkfnhnegaaDoorAvJD
import Derived.Test.YtlhanpkfnhnegaaDoorCards
import Derived.Test.YtlhanpkfnhnegaaDoorTie
import Derived.SevenTiedAt
import Derived.MakeChecks
import Derived.Lay
set_option linter.unusedVariables false
set_option linter.unusedSimpArgs false
namespace Go.Proofs.YtlhanpkfnhnegaaDoor.lawReportRead
open Go.ChangeShapes Go.WideShapes Go.RowKit


/-- The heap that the door's own run leaves meets the row's condition. -/
theorem door_met (os : Os) (args : Array Value) : laidMetH Tryd.prog Rows.fnExactReportReadRow.laid ((World.laidAll Tryd.prog os Rows.fnExactReportReadRow.laid).forCall (fun _ _ => 0) ⟨#[], args, []⟩).memory :=
  by rw [MakeChecks.laidMetH_plain _ _ _ (by kernel_rfl)]; exact laidMet_laidAll _ (by kernel_rfl) (by kernel_rfl)
theorem tab_of {W : World} (h : laidMetH Tryd.prog Rows.fnExactReportReadRow.laid W) : Tab W := by
  rw [MakeChecks.laidMetH_plain _ _ _ (by kernel_rfl)] at h
  exact tab_of_laid rfl (by kernel_rfl) h

set_option maxRecDepth 100000 in
theorem lifted (os : Os) (started : os.Started) (H : Type) (enc : TypeId × Value → H) :
    ReturnsInHanded {} Tryd.checked os 9 .any (fun w args => (Rows.fnExactReportReadSpec.pre enc Tryd.prog Tryd.f9 [] false w args ∧ laidMetH Tryd.prog Rows.fnExactReportReadRow.laid w) ∧ sizedMet enc Tryd.prog Tryd.f9 (OpenSpec.ofChange Rows.fnExactReportReadSpec) false w args) (Rows.fnExactReportReadSpec.post enc Tryd.prog Tryd.f9 false true false false) := by
  refine law_lifted_laid (L := Rows.fnExactReportReadRow.laid) (C := Tryd.checked) (tb := 4) (by kernel_rfl) started (by kernel_rfl) Tryd.func9 (by kernel_rfl) (by kernel_rfl) rfl (by kernel_rfl) Tryd.underlying4 ?_
    (ChangeSpec.witness_shaped (enc := enc) (C := Tryd.checked) (os := os) (X := fun w _ => laidMetH Tryd.prog Rows.fnExactReportReadRow.laid w) false (World.laidAll Tryd.prog os Rows.fnExactReportReadRow.laid) #[.string ⟨#[]⟩] 8 (World.laidAll_os _ _ _) (World.shaped_of_ZipB (by kernel_rfl) (by kernel_rfl)) (by kernel_rfl) (by kernel_rfl) (by kernel_rfl) (door_met os _)) ?_
  · intro ds h
    match ds, h with
    | [d], _ => rfl
  · intro W base args ds p hval hA hfz hsh hL
    rw [Tryd.params9] at hA hval
    obtain ⟨v0, vs0, d0, ds0, p0, q0, hargs, rfl, rfl, h0, r0⟩ := trodAll_cons hA
    obtain ⟨rfl, rfl, rfl⟩ := trodAll_nil r0
    obtain rfl : args = #[v0] := by cases args; simp_all
    obtain ⟨s, rfl⟩ := okWide_string Tryd.underlying9 (hval 0 9 v0 rfl rfl)
    obtain ⟨fuel, hf⟩ := h0
    have e : (⟨s.data.toList.toArray⟩ : ByteArray) = s := by obtain ⟨⟨x⟩⟩ := s; rfl
    have h := lawReportRead_calls s.data.toList W (tabR_of hsh (tab_of hL))
    rw [e] at h
    exact h

theorem said : Rows.FnExactReportReadSaid :=
  OpenClaim.holds_of_wide 9 Tryd.f9 rfl rfl rfl rfl rfl rfl rfl ⟨rfl, rfl, rfl, rfl, rfl⟩ rfl rfl rfl rfl rfl (by kernel_rfl) Tryd.func9 (by kernel_rfl)
    (of_decide_eq_true (by kernel_rfl)) (by unfold Func.isWrapper; first | (rw [if_pos (by decide +kernel)]; kernel_rfl) | (rw [if_neg (by decide +kernel)]; exact ⟨rfl, rfl⟩))
    (fun os started H enc _ => lifted os started H enc)
#print axioms said
end Go.Proofs.YtlhanpkfnhnegaaDoor.lawReportRead
