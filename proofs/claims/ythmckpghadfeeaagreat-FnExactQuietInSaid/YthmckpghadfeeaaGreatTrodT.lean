/- Operations, entries, wants as arguments: what the form can read reads by my Rep. -/
import Derived.Test.YthmckpghadfeeaaGreatTrod
set_option linter.unusedVariables false
set_option maxRecDepth 100000
namespace Go.Proofs.YthmckpghadfeeaaGreat
open Go.ChangeShapes Go.WideShapes Go.RowKit
theorem cellsLOp : Tryz.prog.cellsOf 51 = 5 := by kernel_rfl
theorem treads_LOp : TReads Tryz.prog 51 Rep.DOp := by
  intro H enc w base spare held fuel cs y h
  obtain ⟨ys, n, _, _, hl, hyl, hf⟩ := DataW.trod_struct Tryz.underlying51 h
  rw [cellsLOp] at hl
  have hk := chain_cons (o := 0) (s := 1) (treads_int Tryz.underlying2) (hf 0 _ rfl) (some_at hyl (by decide)) rfl (by kernel_rfl)
    (chain_cons (o := 1) (s := 1) (treads_int Tryz.underlying2) (hf 1 _ rfl) (some_at hyl (by decide)) rfl (by kernel_rfl)
    (chain_cons (o := 2) (s := 1) (treads_int Tryz.underlying2) (hf 2 _ rfl) (some_at hyl (by decide)) rfl (by kernel_rfl)
    (chain_cons (o := 3) (s := 1) (treads_int Tryz.underlying2) (hf 3 _ rfl) (some_at hyl (by decide)) rfl (by kernel_rfl)
    (chain_one (o := 4) (s := 1) (treads_int Tryz.underlying2) (hf 4 _ rfl) (some_at hyl (by decide)) rfl (by kernel_rfl) hl))))
  obtain ⟨⟨a0, a1, a2, a3, a4⟩, F, hk⟩ := hk
  exact ⟨⟨a0, a1, a2, a3, a4⟩, F, hk⟩
theorem cellsLEntry : Tryz.prog.cellsOf 262 = 9 := by kernel_rfl
theorem treads_LEntry : TReads Tryz.prog 262 Rep.DEntry := by
  intro H enc w base spare held fuel cs y h
  obtain ⟨ys, n, _, _, hl, hyl, hf⟩ := DataW.trod_struct Tryz.underlying262 h
  rw [cellsLEntry] at hl
  have hk := chain_cons (o := 0) (s := 1) (treads_int Tryz.underlying2) (hf 0 _ rfl) (some_at hyl (by decide)) rfl (by kernel_rfl)
    (chain_cons (o := 1) (s := 1) (treads_int Tryz.underlying2) (hf 1 _ rfl) (some_at hyl (by decide)) rfl (by kernel_rfl)
    (chain_cons (o := 2) (s := 1) (treads_int Tryz.underlying2) (hf 2 _ rfl) (some_at hyl (by decide)) rfl (by kernel_rfl)
    (chain_cons (o := 3) (s := 1) (treads_int Tryz.underlying2) (hf 3 _ rfl) (some_at hyl (by decide)) rfl (by kernel_rfl)
    (chain_one (o := 4) (s := 5) treads_LOp (hf 4 _ rfl) (some_at hyl (by decide)) rfl (by kernel_rfl) hl))))
  obtain ⟨⟨a0, a1, a2, a3, a4⟩, F, hk⟩ := hk
  exact ⟨⟨a0, a1, a2, a3, a4⟩, F, hk⟩
theorem cellsLWant : Tryz.prog.cellsOf 221 = 7 := by kernel_rfl
theorem treads_LWant : TReads Tryz.prog 221 Rep.DWant := by
  intro H enc w base spare held fuel cs y h
  obtain ⟨ys, n, _, _, hl, hyl, hf⟩ := DataW.trod_struct Tryz.underlying221 h
  rw [cellsLWant] at hl
  have hk := chain_cons (o := 0) (s := 1) (treads_int Tryz.underlying2) (hf 0 _ rfl) (some_at hyl (by decide)) rfl (by kernel_rfl)
    (chain_cons (o := 1) (s := 5) treads_LOp (hf 1 _ rfl) (some_at hyl (by decide)) rfl (by kernel_rfl)
    (chain_one (o := 6) (s := 1) (treads_int Tryz.underlying2) (hf 2 _ rfl) (some_at hyl (by decide)) rfl (by kernel_rfl) hl))
  obtain ⟨⟨a0, a1, a2⟩, F, hk⟩ := hk
  exact ⟨⟨a0, a1, a2⟩, F, hk⟩
end Go.Proofs.YthmckpghadfeeaaGreat
