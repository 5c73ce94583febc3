/- Proved: the program's FaultOf returns what the reference's FaultOf returns, for every number; the results share no memory. No condition. -/
import Derived.Test.YtfehpceafnjmnaaLaw
import Derived.Test.YtfehpceafnjmnaaFaultImpl
set_option linter.unusedVariables false
set_option linter.unusedSimpArgs false
set_option maxRecDepth 100000
namespace Go.Proofs.Ytfehpceafnjmnaa.lawFaultOf
open Go.ChangeShapes Go.WideShapes Go.RowKit

theorem faultL_cnt (k : Int) : cntL cntStep (faultL k) ≤ 1000 := by
  by_cases h : 0 ≤ k ∧ k ≤ 13
  · rcases fault_cases h with rfl | rfl | rfl | rfl | rfl | rfl | rfl | rfl | rfl | rfl | rfl | rfl | rfl | rfl
    all_goals decide
  · have e : faultL k = [] := by unfold faultL; repeat rw [if_neg (by omega)]
    rw [e]
    decide

set_option maxHeartbeats 1000000 in
theorem walk (k : Int) (w : World) :
    Calls Try.prog 5 #[.int .i64 k] w fun e w' => e = .returned (.bool true) ∧ Below w.heap.size w w' := by
  have hcnt := faultL_cnt k
  have hcnn := cntL_nonneg cntStep_nonneg (faultL k)
  go_enter Try.func5, Try.ntmps5
  go_wp2_with fail
  refine (sFaultOf_calls k _).mono ?_; rintro e W1 ⟨A1, c1, F1, rfl, h1, hf1, hb1⟩
  go_wp2_with fail
  refine (iFaultOf_calls k _).mono ?_; rintro e W2 ⟨A2, c2, F2, rfl, h2, hf2, hb2⟩
  have hb := hb1.trans (hb2.mono hb1.size)
  have h1' := Rep.below_all h1 hb2
  have hlt1 := Rep.lt _ h1
  clear h1
  go_wp2_with fail
  refine (leqStepS_same (faultL k) A2 A1 c2 c1 F2 F1 _ h2 h1').mono ?_; rintro e W3 ⟨rfl, hb3⟩
  have hr2 : Res (Rep.sl Rep.DStep) W1.heap.size W3 [.slice A2 (faultL k).length c2] (faultL k) F2 := (Res.mk h2 hf2).below hb3
  have h1'' := Rep.below_all h1' hb3
  have hbb := hb.trans (hb3.mono hb.size)
  clear h2 hf2 h1' hb hb3 hb2
  go_wp2_with fail
  refine (lmarkStepS_calls (faultL k) A2 _ c2 F2 W1.heap.size _ 1 hr2 (by omega) (by omega)).mono ?_; rintro e W4 ⟨rfl, hr4, ht4⟩
  have h14 := ht4.rd h1'' (fun g hg hg' => by have := hlt1 g hg; have := (hr2.fresh.2 g hg').1; omega)
  have hbd := hbb.trans (ht4.below hbb.size (fun g hg => Nat.le_trans hb1.size (hr2.fresh.2 g hg).1))
  clear hr2 h1'' ht4 hbb
  go_wp2_with fail
  refine (lheldStepS_calls (faultL k) A2 _ c2 F2 _ 1 hr4.rd (by omega) (by omega)).mono ?_; rintro e W5 ⟨rfl, hb5⟩
  have h15 := Rep.below_all h14 hb5
  have hr5 := hr4.below hb5
  have hbe := hbd.trans (hb5.mono hbd.size)
  clear h14 hr4 hbd hb5
  go_wp2_with fail
  refine (iFaultOf_calls k _).mono ?_; rintro e W6 ⟨A6, c6, F6, rfl, h6, hf6, hb6⟩
  have h16 := Rep.below_all h15 hb6
  have hr6 := hr5.below hb6
  have hbf := hbe.trans (hb6.mono hbe.size)
  clear h15 hr5 hb6 hbe hf6
  go_wp2_with fail
  refine (leqStepS_same (faultL k) A6 A1 c6 c1 F6 F1 _ h6 h16).mono ?_; rintro e W7 ⟨rfl, hb7⟩
  have hr7 := hr6.below hb7
  have hbg := hbf.trans (hb7.mono hbf.size)
  clear h6 h16 hr6 hb7 hbf
  go_wp2_with fail
  refine (lheldStepS_calls (faultL k) A2 _ c2 F2 _ 1 hr7.rd (by omega) (by omega)).mono ?_; rintro e W8 ⟨rfl, hb8⟩
  have hbh := hbg.trans (hb8.mono hbg.size)
  clear hr7 hb8 hbg hb1 hlt1
  go_wp2_with fail
  go_ret
  exact ⟨rfl, hbh⟩

set_option maxRecDepth 100000 in
theorem lifted (os : Os) (started : os.Started) (H : Type) (enc : TypeId × Value → H) :
    ReturnsInHanded {} Try.checked os 5 .any (Rows.fnExactFaultOfSpec.pre6 enc Try.prog Try.f5 Rows.fnExactFaultOfRow.domain false) (Rows.fnExactFaultOfSpec.post enc Try.prog Try.f5 false true false false) := by
  refine law_lifted (C := Try.checked) (tb := 4) (by kernel_rfl) started (by kernel_rfl) Try.func5 (by kernel_rfl) (by kernel_rfl) rfl (by kernel_rfl) Try.underlying4 ?_
    (ChangeSpec.witness6 (enc := enc) (C := Try.checked) false ⟨#[], #[.int .i64 0], []⟩ 8 (by kernel_rfl) (by kernel_rfl) (by kernel_rfl) (by kernel_rfl)) ?_
  · intro ds h
    match ds, h with
    | [d], _ => rfl
  · intro W base args ds p hval hA hfz
    rw [Try.params5] at hA hval
    obtain ⟨v0, vs0, d0, ds0, p0, q0, hargs, rfl, rfl, h0, r0⟩ := trodAll_cons hA
    obtain ⟨rfl, rfl, rfl⟩ := trodAll_nil r0
    obtain rfl : args = #[v0] := by cases args; simp_all
    obtain ⟨a0, rfl, rfl, rfl, w0⟩ := open_int Try.underlying2 (hval 0 2 v0 rfl rfl) h0
    exact walk a0 W

theorem proved : Rows.FnExactFaultOfSaid :=
  OpenClaim.holds_of_wide 5 Try.f5 rfl rfl rfl rfl rfl rfl rfl ⟨rfl, rfl, rfl, rfl, rfl⟩ rfl rfl rfl rfl rfl (by kernel_rfl) Try.func5 (by kernel_rfl)
    (of_decide_eq_true (by kernel_rfl)) (by unfold Func.isWrapper; first | (rw [if_pos (by decide +kernel)]; kernel_rfl) | (rw [if_neg (by decide +kernel)]; exact ⟨rfl, rfl⟩))
    (fun os started H enc _ => lifted os started H enc)
#print axioms proved
end Go.Proofs.Ytfehpceafnjmnaa.lawFaultOf
