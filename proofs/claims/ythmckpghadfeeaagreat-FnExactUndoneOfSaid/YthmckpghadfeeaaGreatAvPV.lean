/- A struct of plain values is known. -/
import Derived.Test.YthmckpghadfeeaaGreatAvPL
set_option linter.unusedVariables false
set_option linter.unusedSimpArgs false
set_option maxRecDepth 100000
namespace Go.Proofs.YthmckpghadfeeaaGreat
open Go.RowKit

theorem relV_pvs {Z : Nat → Prop} {w : World} {ρ : Nat → Value} {v : Value} : ∀ {ds : List AD}, ds.all AD.isPv = true → RelV Z w ρ (.agg (ds.map .d)) v → v = .agg (ds.map pvOf).toArray := by
  intro ds hp h
  cases h with
  | agg _ us hl h =>
    have : us = ds.map pvOf := by
      apply List.ext_getElem
      · simpa using hl
      · intro i h1 h2
        have hi : i < ds.length := by simpa using h2
        have hr := h i (.d ds[i]) us[i] (by simp [hi]) (by simp [h1])
        have := relD_pl (List.all_eq_true.1 hp ds[i] (List.getElem_mem hi)) (show RelD Z w ds[i] us[i] from hr)
        simpa using this
    rw [this]
end Go.Proofs.YthmckpghadfeeaaGreat
