/- Proved: the program's WithFault returns what the reference's WithFault returns, for every list of steps, place and number; the results share no memory; no argument is changed. No condition. -/
import Derived.Test.YtfehpceafnjmnaaLaw
import Derived.Test.YtfehpceafnjmnaaWithI
import Derived.Test.YtfehpceafnjmnaaTrod
set_option linter.unusedVariables false
set_option linter.unusedSimpArgs false
set_option maxRecDepth 100000
namespace Go.Proofs.Ytfehpceafnjmnaa.lawWithFault
open Go.ChangeShapes Go.WideShapes Go.RowKit

theorem faultL_cnt (k : Int) : cntL cntStep (faultL k) ≤ 1000 := by
  by_cases h : 0 ≤ k ∧ k ≤ 13
  · rcases fault_cases h with rfl | rfl | rfl | rfl | rfl | rfl | rfl | rfl | rfl | rfl | rfl | rfl | rfl | rfl
    all_goals decide
  · rw [faultL_out h]
    decide
theorem cnt_sz : ∀ (l : List DStep), cntL cntStep l = 4 * l.length + cntL szStepD l
  | [] => rfl
  | s :: r => by simp only [cntL, cnt_sz r, cntStep, szStepD, cntI, List.length_cons]; omega
theorem sz_mem : ∀ (l : List DStep) (s : DStep), s ∈ l → szStepD s ≤ cntL szStepD l
  | [], s, h => by cases h
  | a :: r, s, h => by
    have := cntL_nonneg szStepD_nonneg r
    have := szStepD_nonneg a
    simp only [cntL]
    rcases List.mem_cons.1 h with rfl | h
    · omega
    · have := sz_mem r s h; omega
theorem withL_cnt (l : List DStep) (a k : Int) : cntL cntStep (withL l a (faultL k)) ≤ cntL cntStep l + 1000 := by
  have h1 := faultL_cnt k
  have h2 := cntL_nonneg cntStep_nonneg l
  unfold withL
  split
  · simp only [cntL]; omega
  · rw [cntL_append, cntL_append]
    have e : cntL cntStep l = cntL cntStep (l.take a.toNat) + cntL cntStep (l.drop a.toNat) := by rw [← cntL_append, List.take_append_drop]
    omega

set_option maxHeartbeats 1000000 in
theorem walk (l : List DStep) (A : Option Addr) (n cap : Nat) (F : List Nat) (a k : Int) (w : World) (hA : (Rep.sl Rep.DStep).rd w [.slice A n cap] l F) :
    Calls Try.prog 6 #[.slice A n cap, .int .i64 a, .int .i64 k] w fun e w' => e = .returned (.bool true) ∧ Below w.heap.size w w' := by
  have hwc := withL_cnt l a k
  have hwn := cntL_nonneg cntStep_nonneg (withL l a (faultL k))
  have hln := cntL_nonneg cntStep_nonneg l
  have hsn := cntL_nonneg szStepD_nonneg l
  have hcs := Lib.hid (cnt_sz l)
  go_enter Try.func6, Try.ntmps6
  have hb_0 : Below w.heap.size w w := Below.refl _ _
  go_wp2_with fail
  refine (lszStepS_calls l A n cap F _ (Rep.below_all hA hb_0) 1048576 (by omega) (by omega)).mono ?_; rintro e W1 ⟨r, rfl, hr1, hr2, hr3, hbl⟩
  have hb_1 := hb_0.trans (hbl.mono hb_0.size)
  have hs_1 := hbl.size
  clear hb_0 hbl
  by_cases hneg : r < 0
  · go_wp2_with fail
    go_ret
    exact ⟨rfl, hb_1⟩
  · have hr4 := hr1 (by omega)
    have hll : l.length ≤ 1048576 := by omega
    have hfl : ∀ s ∈ l, s.fates.length ≤ 100000000 := fun s hs => by have := sz_mem l s hs; have e : szStepD s = s.fates.length := rfl; omega
    have hlc : cntL cntStep l ≤ 10000000 := by have := hcs.out; omega
    clear hr1 hcs
    go_wp2_with fail
    refine (ltoStepS_calls l A n cap F _ (Rep.below_all hA hb_1) (by omega) hfl).mono ?_; rintro e W2 ⟨A2, c2, F2, rfl, h2, hf2, hbl⟩
    have hb_2 := hb_1.trans (hbl.mono hb_1.size)
    have hs_2 := hbl.size
    have t_2 := h2
    have lt_t : ∀ g ∈ F2, g < W2.heap.size := fun g hg => Rep.lt _ t_2 g hg
    clear h2 hf2
    clear hb_1 hbl
    go_wp2_with fail
    refine (sWithFault_calls l A2 _ c2 F2 a k _ t_2 (by omega) hfl).mono ?_; rintro e W3 ⟨A3, c3, F3, rfl, h3, hf3, hbl⟩
    have hb_3 := hb_2.trans (hbl.mono hb_2.size)
    have hs_3 := hbl.size
    have t_3 := Rep.below_all t_2 hbl
    have v_3 := h3
    have lt_v : ∀ g ∈ F3, g < W3.heap.size := fun g hg => Rep.lt _ v_3 g hg
    clear h3 hf3
    clear hb_2 t_2 hbl
    clear t_3 lt_t
    go_wp2_with fail
    refine (ltoStepS_calls l A n cap F _ (Rep.below_all hA hb_3) (by omega) hfl).mono ?_; rintro e W4 ⟨A4, c4, F4, rfl, h4, hf4, hbl⟩
    have hb_4 := hb_3.trans (hbl.mono hb_3.size)
    have hs_4 := hbl.size
    have v_4 := Rep.below_all v_3 hbl
    have x_4 := (Res.mk h4 hf4)
    have lo_x : ∀ g ∈ F4, W3.heap.size ≤ g := fun g hg => (x_4.fresh.2 g hg).1
    have lt_x : ∀ g ∈ F4, g < W4.heap.size := fun g hg => x_4.fresh.lt g hg
    clear h4 hf4
    clear hb_3 v_3 hbl
    have hz_x : w.heap.size ≤ W3.heap.size := by omega
    go_wp2_with fail
    refine (iWithFault_calls l A4 _ c4 F4 a k _ x_4.rd (by omega) hfl).mono ?_; rintro e W5 ⟨A5, c5, F5, rfl, h5, hf5, hbl⟩
    have hb_5 := hb_4.trans (hbl.mono hb_4.size)
    have hs_5 := hbl.size
    have v_5 := Rep.below_all v_4 hbl
    have x_5 := x_4.below hbl
    have g_5 := (Res.mk h5 hf5)
    have lo_g : ∀ g ∈ F5, W4.heap.size ≤ g := fun g hg => (g_5.fresh.2 g hg).1
    have lt_g : ∀ g ∈ F5, g < W5.heap.size := fun g hg => g_5.fresh.lt g hg
    clear h5 hf5
    clear hb_4 v_4 x_4 hbl
    have hz_g : w.heap.size ≤ W4.heap.size := by omega
    go_wp2_with fail
    refine (leqStepS_same (withL l a (faultL k)) A5 A3 c5 c3 F5 F3 _ g_5.rd v_5).mono ?_; rintro e W6 ⟨rfl, hbl⟩
    have hb_6 := hb_5.trans (hbl.mono hb_5.size)
    have hs_6 := hbl.size
    have v_6 := Rep.below_all v_5 hbl
    have x_6 := x_5.below hbl
    have g_6 := g_5.below hbl
    clear hb_5 v_5 x_5 g_5 hbl
    go_wp2_with fail
    refine (ltoStepS_calls l A n cap F _ (Rep.below_all hA hb_6) (by omega) hfl).mono ?_; rintro e W7 ⟨A7, c7, F7, rfl, h7, hf7, hbl⟩
    have hb_7 := hb_6.trans (hbl.mono hb_6.size)
    have hs_7 := hbl.size
    have v_7 := Rep.below_all v_6 hbl
    have x_7 := x_6.below hbl
    have g_7 := g_6.below hbl
    have y_7 := h7
    have lt_y : ∀ g ∈ F7, g < W7.heap.size := fun g hg => Rep.lt _ y_7 g hg
    clear h7 hf7
    clear hb_6 v_6 x_6 g_6 hbl
    go_wp2_with fail
    refine (leqStepS_same l A4 A7 c4 c7 F4 F7 _ x_7.rd y_7).mono ?_; rintro e W8 ⟨rfl, hbl⟩
    have hb_8 := hb_7.trans (hbl.mono hb_7.size)
    have hs_8 := hbl.size
    have v_8 := Rep.below_all v_7 hbl
    have x_8 := x_7.below hbl
    have g_8 := g_7.below hbl
    have y_8 := Rep.below_all y_7 hbl
    clear hb_7 v_7 x_7 g_7 y_7 hbl
    clear y_8 lt_y
    go_wp2_with fail
    refine (lmarkStepS_calls l A4 _ c4 F4 _ _ 1 x_8 (by omega) (by omega)).mono ?_; rintro e W9 ⟨rfl, hr, ht⟩
    have hb_9 := hb_8.trans (ht.below hb_8.size (fun g hg => by have := lo_x g hg; have := hz_x; omega))
    have hs_9 := ht.size
    have v_9 := Turned.rd ht v_8 (fun g hg hg' => by have := lt_v g hg; have := lo_x g hg'; omega)
    have x_9 := hr
    have g_9 := Turned.res ht g_8 (fun g hg hg' => by have := lo_g g hg; have := lt_x g hg'; omega)
    clear hb_8 v_8 x_8 g_8 hr ht
    clear x_9 lo_x lt_x hz_x
    go_wp2_with fail
    refine (leqStepS_same (withL l a (faultL k)) A5 A3 c5 c3 F5 F3 _ g_9.rd v_9).mono ?_; rintro e W10 ⟨rfl, hbl⟩
    have hb_10 := hb_9.trans (hbl.mono hb_9.size)
    have hs_10 := hbl.size
    have v_10 := Rep.below_all v_9 hbl
    have g_10 := g_9.below hbl
    clear hb_9 v_9 g_9 hbl
    go_wp2_with fail
    refine (lmarkStepS_calls (withL l a (faultL k)) A5 _ c5 F5 _ _ 1 g_10 (by omega) (by omega)).mono ?_; rintro e W11 ⟨rfl, hr, ht⟩
    have hb_11 := hb_10.trans (ht.below hb_10.size (fun g hg => by have := lo_g g hg; have := hz_g; omega))
    have hs_11 := ht.size
    have v_11 := Turned.rd ht v_10 (fun g hg hg' => by have := lt_v g hg; have := lo_g g hg'; omega)
    have g_11 := hr
    clear hb_10 v_10 g_10 hr ht
    go_wp2_with fail
    refine (lheldStepS_calls (withL l a (faultL k)) A5 _ c5 F5 _ 1 g_11.rd (by omega) (by omega)).mono ?_; rintro e W12 ⟨rfl, hbl⟩
    have hb_12 := hb_11.trans (hbl.mono hb_11.size)
    have hs_12 := hbl.size
    have v_12 := Rep.below_all v_11 hbl
    have g_12 := g_11.below hbl
    clear hb_11 v_11 g_11 hbl
    go_wp2_with fail
    refine (ltoStepS_calls l A n cap F _ (Rep.below_all hA hb_12) (by omega) hfl).mono ?_; rintro e W13 ⟨A13, c13, F13, rfl, h13, hf13, hbl⟩
    have hb_13 := hb_12.trans (hbl.mono hb_12.size)
    have hs_13 := hbl.size
    have v_13 := Rep.below_all v_12 hbl
    have g_13 := g_12.below hbl
    have u_13 := h13
    have lt_u : ∀ g ∈ F13, g < W13.heap.size := fun g hg => Rep.lt _ u_13 g hg
    clear h13 hf13
    clear hb_12 v_12 g_12 hbl
    go_wp2_with fail
    refine (iWithFault_calls l A13 _ c13 F13 a k _ u_13 (by omega) hfl).mono ?_; rintro e W14 ⟨A14, c14, F14, rfl, h14, hf14, hbl⟩
    have hb_14 := hb_13.trans (hbl.mono hb_13.size)
    have hs_14 := hbl.size
    have v_14 := Rep.below_all v_13 hbl
    have g_14 := g_13.below hbl
    have u_14 := Rep.below_all u_13 hbl
    have p_14 := h14
    have lt_p : ∀ g ∈ F14, g < W14.heap.size := fun g hg => Rep.lt _ p_14 g hg
    clear h14 hf14
    clear hb_13 v_13 g_13 u_13 hbl
    clear u_14 lt_u
    go_wp2_with fail
    refine (leqStepS_same (withL l a (faultL k)) A14 A3 c14 c3 F14 F3 _ p_14 v_14).mono ?_; rintro e W15 ⟨rfl, hbl⟩
    have hb_15 := hb_14.trans (hbl.mono hb_14.size)
    have hs_15 := hbl.size
    have v_15 := Rep.below_all v_14 hbl
    have g_15 := g_14.below hbl
    have p_15 := Rep.below_all p_14 hbl
    clear hb_14 v_14 g_14 p_14 hbl
    clear p_15 lt_p v_15 lt_v
    go_wp2_with fail
    refine (lheldStepS_calls (withL l a (faultL k)) A5 _ c5 F5 _ 1 g_15.rd (by omega) (by omega)).mono ?_; rintro e W16 ⟨rfl, hbl⟩
    have hb_16 := hb_15.trans (hbl.mono hb_15.size)
    have hs_16 := hbl.size
    have g_16 := g_15.below hbl
    clear hb_15 g_15 hbl
    clear g_16 lo_g lt_g hz_g
    go_wp2_with fail
    go_ret
    exact ⟨rfl, hb_16⟩

set_option maxRecDepth 100000 in
theorem lifted (os : Os) (started : os.Started) (H : Type) (enc : TypeId × Value → H) :
    ReturnsInHanded {} Try.checked os 6 .any (Rows.fnExactWithFaultSpec.pre6 enc Try.prog Try.f6 Rows.fnExactWithFaultRow.domain false) (Rows.fnExactWithFaultSpec.post enc Try.prog Try.f6 false true false false) := by
  refine law_lifted (C := Try.checked) (tb := 4) (by kernel_rfl) started (by kernel_rfl) Try.func6 (by kernel_rfl) (by kernel_rfl) rfl (by kernel_rfl) Try.underlying4 ?_
    (ChangeSpec.witness6 (enc := enc) (C := Try.checked) false ⟨#[], #[.slice none 0 0, .int .i64 0, .int .i64 0], []⟩ 8 (by kernel_rfl) (by kernel_rfl) (by kernel_rfl) (by kernel_rfl)) ?_
  · intro ds h
    match ds, h with
    | [d1, d2, d3], _ => rfl
  · intro W base args ds p hval hA hfz
    rw [Try.params6] at hA hval
    obtain ⟨v0, vs0, d0, ds0, p0, q0, hargs, rfl, rfl, h0, r0⟩ := trodAll_cons hA
    obtain ⟨v1, vs1, d1, ds1, p1, q1, rfl, rfl, rfl, h1, r1⟩ := trodAll_cons r0
    obtain ⟨v2, vs2, d2, ds2, p2, q2, rfl, rfl, rfl, h2, r2⟩ := trodAll_cons r1
    obtain ⟨rfl, rfl, rfl⟩ := trodAll_nil r2
    obtain rfl : args = #[v0, v1, v2] := by cases args; simp_all
    obtain ⟨a1, rfl, rfl, rfl, w1⟩ := open_int Try.underlying2 (hval 1 2 v1 rfl rfl) h1
    obtain ⟨a2, rfl, rfl, rfl, w2⟩ := open_int Try.underlying2 (hval 2 2 v2 rfl rfl) h2
    obtain ⟨a0, len, cap, rfl⟩ := okWide_slice Try.underlying30 (hval 0 30 v0 rfl rfl)
    obtain ⟨fuel, hf⟩ := h0
    obtain ⟨l, F, hrd⟩ := treads_sl (R := Rep.DStep) Try.underlying30 cellsLStep treads_LStep H enc W 0 _ _ fuel _ _ hf
    exact walk l _ _ _ F a1 a2 W hrd

theorem proved : Rows.FnExactWithFaultSaid :=
  OpenClaim.holds_of_wide 6 Try.f6 rfl rfl rfl rfl rfl rfl rfl ⟨rfl, rfl, rfl, rfl, rfl⟩ rfl rfl rfl rfl rfl (by kernel_rfl) Try.func6 (by kernel_rfl)
    (of_decide_eq_true (by kernel_rfl)) (by unfold Func.isWrapper; first | (rw [if_pos (by decide +kernel)]; kernel_rfl) | (rw [if_neg (by decide +kernel)]; exact ⟨rfl, rfl⟩))
    (fun os started H enc _ => lifted os started H enc)
#print axioms proved
end Go.Proofs.Ytfehpceafnjmnaa.lawWithFault
