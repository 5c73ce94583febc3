/- Proved: the program's EntryText returns what the reference's returns, for every entry; the row's condition (the table of strconv) is tied to the program's text by the card. -/
import Derived.Test.YtlhanpkfnhnegaaDoorLawLaid
import Derived.Test.YtlhanpkfnhnegaaDoorAvT2
import Derived.Test.YtlhanpkfnhnegaaDoorAvQ
import Derived.Test.YtlhanpkfnhnegaaDoorTrodT
import Derived.Test.YtlhanpkfnhnegaaDoorCards
import Derived.Test.YtlhanpkfnhnegaaDoorTie
import Derived.SevenTiedAt
import Derived.MakeChecks
set_option linter.unusedVariables false
set_option linter.unusedSimpArgs false
namespace Go.Proofs.YtlhanpkfnhnegaaDoor.lawEntryText
open Go.ChangeShapes Go.WideShapes Go.RowKit

abbrev DOp.ds (o : DOp) : List AD := [dI o.kind, dI o.a, dI o.b, dI o.c, dI o.d]
theorem toOp_p (o : DOp) : PCall av 16 [.agg (DOp.ds o)] (.val (.agg (DOp.ds o))) := by
  refine pcall_of av_ok Tryd.func16 rfl Tryd.call16 Tryd.ntmps16 (congrArg Array.toList Tryd.results16) fun S => ?_
  conv => whnf
  repeat' (first | (refine AWP.seq ?_) | (refine AWP.region av_ok ?_; conv => whnf) | (refine AWP.ret ?_; conv => whnf) | (refine AWP.skip ?_; conv => whnf) | (refine AWP.exit ?_; conv => whnf) | (refine AWP.block ?_; conv => whnf) | (refine AWP.cond ?_; conv => whnf) | (refine AB.tt ?_; conv => whnf) | (refine AB.ff ?_; conv => whnf) | (refine ⟨rfl, ?_⟩; conv => whnf) | (refine AB.mk (fun h => ?_) (fun h => ?_) <;> (conv => whnf)))
  all_goals rfl
theorem toEntry_p (e : DEntry) : PCall av 19 [.agg e.ds] (.val (.agg e.ds)) := by
  refine pcall_of av_ok Tryd.func19 rfl Tryd.call19 Tryd.ntmps19 (congrArg Array.toList Tryd.results19) fun S => ?_
  conv => whnf
  repeat' (first | (refine AWP.seq ?_) | (refine AWP.region av_ok ?_; conv => whnf) | (refine AWP.ret ?_; conv => whnf) | (refine AWP.skip ?_; conv => whnf) | (refine AWP.exit ?_; conv => whnf) | (refine AWP.block ?_; conv => whnf) | (refine AWP.cond ?_; conv => whnf) | (refine AB.tt ?_; conv => whnf) | (refine AB.ff ?_; conv => whnf) | (refine ACall.pure (toOp_p e.op) rfl ?_; conv => whnf) | (refine ⟨rfl, ?_⟩; conv => whnf) | (refine AB.mk (fun h => ?_) (fun h => ?_) <;> (conv => whnf)))
  all_goals rfl
theorem enc_entry : Enc Rep.DEntry DEntry.ds :=
  Enc.via (f := fun x : DEntry => (x.index, x.time, x.client, x.seq, x.op)) (Enc.pair Enc.int (Enc.pair Enc.int (Enc.pair Enc.int (Enc.pair Enc.int (Enc.via (f := fun x : DOp => (x.kind, x.a, x.b, x.c, x.d)) (Enc.pair Enc.int (Enc.pair Enc.int (Enc.pair Enc.int (Enc.pair Enc.int Enc.int)))))))))
theorem law_p (e : DEntry) : PCall av 4 [.agg e.ds] (rB true) := by
  refine pcall_of av_ok Tryd.func4 rfl Tryd.call4 Tryd.ntmps4 (congrArg Array.toList Tryd.results4) fun S => ?_
  conv => whnf
  repeat' (first | (refine AWP.seq ?_) | (refine AWP.region av_ok ?_; conv => whnf) | (refine AWP.ret ?_; conv => whnf) | (refine AWP.skip ?_; conv => whnf) | (refine AWP.exit ?_; conv => whnf) | (refine AWP.block ?_; conv => whnf) | (refine AWP.cond ?_; conv => whnf) | (refine AB.tt ?_; conv => whnf) | (refine AB.ff ?_; conv => whnf) | (refine ACall.pure (toEntry_p e) rfl ?_; conv => whnf) | (refine ACall.pure (sEntryText_p e) rfl ?_; conv => whnf) | (refine ACall.pure (iEntryText_p e) rfl ?_; conv => whnf) | (refine ⟨rfl, ?_⟩; conv => whnf) | (refine AB.mk (fun h => ?_) (fun h => ?_) <;> (conv => whnf)))
  all_goals simp_all

/-- The heap that the door's own run leaves meets the row's condition. -/
theorem door_met (os : Os) (args : Array Value) : laidMetH Tryd.prog Rows.fnExactEntryTextRow.laid ((World.doorLaid Tryd.prog 72 os).forCall (fun _ _ => 0) ⟨#[], args, []⟩).memory :=
  laidMetH_of_parts3 (fuel := 8) (laidMet_of_run' 8 (by kernel_rfl) (by kernel_rfl)) (by kernel_rfl) (by kernel_rfl)
theorem tab_of {W : World} (h : laidMetH Tryd.prog Rows.fnExactEntryTextRow.laid W) : Tab W := by
  rw [MakeChecks.laidMetH_plain _ _ _ (by kernel_rfl)] at h
  exact tab_of_laid rfl (by kernel_rfl) h

set_option maxRecDepth 100000 in
theorem lifted (os : Os) (started : os.Started) (H : Type) (enc : TypeId × Value → H) :
    ReturnsInHanded {} Tryd.checked os 4 .any (fun w args => (Rows.fnExactEntryTextSpec.pre enc Tryd.prog Tryd.f4 [] false w args ∧ laidMetH Tryd.prog Rows.fnExactEntryTextRow.laid w) ∧ sizedMet enc Tryd.prog Tryd.f4 (OpenSpec.ofChange Rows.fnExactEntryTextSpec) false w args) (Rows.fnExactEntryTextSpec.post enc Tryd.prog Tryd.f4 false true false false) := by
  refine law_lifted_laid (L := Rows.fnExactEntryTextRow.laid) (C := Tryd.checked) (tb := 4) (by kernel_rfl) started (by kernel_rfl) Tryd.func4 (by kernel_rfl) (by kernel_rfl) rfl (by kernel_rfl) Tryd.underlying4 ?_
    (ChangeSpec.witness_shaped (enc := enc) (C := Tryd.checked) (os := os) (X := fun w _ => laidMetH Tryd.prog Rows.fnExactEntryTextRow.laid w) false (World.doorLaid Tryd.prog 72 os) #[.agg #[.int .i64 0, .int .i64 0, .int .i64 0, .int .i64 0, .int .i64 0, .int .i64 0, .int .i64 0, .int .i64 0, .int .i64 0]] 8 rfl (World.shaped_of_RefB (by kernel_rfl) (by kernel_rfl)) (by kernel_rfl) (by kernel_rfl) (by kernel_rfl) (door_met os _)) ?_
  · intro ds h
    match ds, h with
    | [d], _ => rfl
  · intro W base args ds p hval hA hfz hL
    rw [Tryd.params4] at hA hval
    obtain ⟨v0, vs0, d0, ds0, p0, q0, hargs, rfl, rfl, h0, r0⟩ := trodAll_cons hA
    obtain ⟨rfl, rfl, rfl⟩ := trodAll_nil r0
    obtain rfl : args = #[v0] := by cases args; simp_all
    obtain ⟨cs, rfl, _⟩ := okWide_struct Tryd.underlying29 (hval 0 29 v0 rfl rfl)
    obtain ⟨fuel, hf⟩ := h0
    obtain ⟨o, F, hrd⟩ := treads_LEntry H enc W 0 _ _ fuel _ _ hf
    exact (law_p o).walk (tab_of hL) rfl fun i p u hp hu => by
      cases i with
      | zero =>
        simp at hp hu
        subst hp hu
        exact Enc.agg (f := DEntry.ds) enc_entry hrd
      | succ i => simp at hp

theorem said : Rows.FnExactEntryTextSaid :=
  OpenClaim.holds_of_wide 4 Tryd.f4 rfl rfl rfl rfl rfl rfl rfl ⟨rfl, rfl, rfl, rfl, rfl⟩ rfl rfl rfl rfl rfl (by kernel_rfl) Tryd.func4 (by kernel_rfl)
    (of_decide_eq_true (by kernel_rfl)) (by unfold Func.isWrapper; first | (rw [if_pos (by decide +kernel)]; kernel_rfl) | (rw [if_neg (by decide +kernel)]; exact ⟨rfl, rfl⟩))
    (fun os started H enc _ => lifted os started H enc)
#print axioms said
end Go.Proofs.YtlhanpkfnhnegaaDoor.lawEntryText
