/- The program's WithFault. -/
import Derived.Test.YtfehpceafnjmnaaWith
import Derived.Deep.RegionLaw
import Derived.Lib.LazyBuf
set_option linter.unusedVariables false
set_option linter.unusedSimpArgs false
set_option maxRecDepth 100000
namespace Go.Proofs.Ytfehpceafnjmnaa
open Go.ChangeShapes Go.WideShapes Go.RowKit

theorem run_slice_upto {P : Program} {t : TypeId} {e : TypeId} {i : TypeInfo} (ht : P.underlying t = some (.slice e)) (he : P.elem t = e) (hi : P.info? e = some i)
    (A : Option Addr) (n cap k : Nat) (hk : k ≤ cap) (W : World) : (Instr.slice t (.slice A n cap) none (some (.int .i64 (k : Int))) none).run P W = .ok (.slice A k cap) W := by
  subst he
  have h := run_slice_h (P := P) W t A n cap ht .i64 (k : Int) (by omega) (by omega)
  rw [h]
  simp only [sizeOf, typeInfo, Int.toNat_natCast, sliced_to]
  simp [hi]
theorem faultL_out {k : Int} (h : ¬ (0 ≤ k ∧ k ≤ 13)) : faultL k = [] := by unfold faultL; repeat rw [if_neg (by omega)]
theorem faultL_in {k : Int} (h : 0 ≤ k ∧ k ≤ 13) : 0 < (faultL k).length := by
  rcases fault_cases h with rfl | rfl | rfl | rfl | rfl | rfl | rfl | rfl | rfl | rfl | rfl | rfl | rfl | rfl
  all_goals decide
theorem iFaultOf_nil (k : Int) (w : World) (h : ¬ (0 ≤ k ∧ k ≤ 13)) : Calls Try.prog 12 #[.int .i64 k] w fun e w' => e = .returned (.slice none 0 0) ∧ w = w' := by
  have hf := Lib.hid (betweenB_false h)
  clear h
  go_enter Try.func12, Try.ntmps12
  go_wp2_with (go_at_call 30; refine (between_calls _ _ _ _ false hf.out).mono ?_; rintro e w' ⟨rfl, rfl⟩)
  go_ret
  exact ⟨rfl, rfl⟩

set_option maxHeartbeats 2000000 in
theorem iWithFault_calls (l : List DStep) (A : Option Addr) (n cap : Nat) (F : List Nat) (a k : Int) (w : World) (h : (Rep.sl Rep.DStep).rd w [.slice A n cap] l F) (hl : l.length ≤ 10000000)
    (hf : ∀ s ∈ l, s.fates.length ≤ 100000000) :
    Calls Try.prog 19 #[.slice A n cap, .int .i64 a, .int .i64 k] w (OutSl Rep.DStep (withL l a (faultL k)) w) := by
  have hnil := fun (W : World) (x : Option Addr) (n c : Nat) => Lib.run_eql_slice_nil (P := Try.prog) W 26 44 x n c 0 0 Try.underlying26
  obtain ⟨rfl, hcl, hcm, _⟩ := Rep.sl_open h
  unfold maxLen at hcm
  by_cases hk : 0 ≤ k ∧ k ≤ 13
  · have hfp := faultL_in hk
    have hfl := faultL_len k
    have hc := fun W => iFaultOf_calls k W
    generalize faultL k = f at hc hfl hfp
    have HC := Lib.hid hc
    clear hc hk
    go_enter Try.func19, Try.ntmps19
    go_wp2_with fail
    refine (HC.out _).mono ?_; rintro e W1 ⟨A1, c1, F1, rfl, h1, hf1, hb1⟩
    obtain ⟨_, hc1, hm1, xs1, G1, hr1, ha1, hF1⟩ := Rep.sl_open h1
    unfold maxLen at hm1
    have hsome : ∃ b off, A1 = some ⟨b, off, none⟩ := by
      have hx := Rep.all_len ha1
      obtain ⟨b, off, e, _⟩ := hr1 0 (by rw [hx]; exact Nat.mul_pos hfp (by decide))
      exact ⟨b, off, e⟩
    obtain ⟨b1, o1, rfl⟩ := hsome
    by_cases t3 : 0 ≤ a ∧ a ≤ l.length
    · have hbt := Lib.hid (betweenB_true t3.1 t3.2)
      by_cases t2 : 600 < l.length + f.length
      · have E := Lib.hid (show withL l a f = [] by unfold withL; rw [if_pos (.inr (.inl t2))])
        have t2' : decide ((600 : Int) < l.length + f.length) = true := decide_eq_true (by omega)
        clear t2 t3 hr1 ha1 hc1
        go_wp2_with (go_at_call 30; refine (between_calls _ _ _ _ true hbt.out).mono ?_; rintro e w' ⟨rfl, rfl⟩)
        go_ret
        rw [E.out]; exact nil_out _ _ hb1
      · have t2' : decide ((600 : Int) < l.length + f.length) = false := decide_eq_false (by omega)
        have t2b : l.length + f.length ≤ 600 := by omega
        obtain ⟨j, rfl⟩ := Int.eq_ofNat_of_zero_le t3.1
        have hj : j ≤ l.length := by omega
        have E := Lib.hid (show withL l j f = l.take j ++ f ++ l.drop j by unfold withL; rw [if_neg (by omega)]; simp)
        have h' := Rep.below_all h hb1
        clear t2 t3
        obtain ⟨G, hG⟩ := Rep.sl_take h' hj
        obtain ⟨A5, c5, G5, e5, h5⟩ := Rep.sl_drop h hj 5 rfl
        obtain ⟨i0, hi0, _, hi1, _⟩ := info_parts infoStep
        have hsl := fun W => run_slice_from (P := Try.prog) Try.underlying26 rfl 5 hi0 hi1 A l.length cap j hj W
        rw [e5] at hsl
        have hsl2 := fun W => run_slice_upto (P := Try.prog) Try.underlying26 rfl hi0 A l.length cap j (by omega) W
        have h5x : ∀ W : World, Below w.heap.size w W → (Rep.sl Rep.DStep).rd W [.slice A5 (l.length - j) c5] (l.drop j) G5 := fun W hW => Rep.below_all h5 hW
        have hF1g : ∀ b ∈ G1, b ∈ F1 := fun b hb => by rw [hF1]; exact List.mem_append_right _ hb
        have hfr1 : Fresh w.heap.size W1 G1 := hf1.sub (by rw [hF1]; exact List.sublist_append_right _ _)
        have hlt1 := hf1.lt
        have H5 := Lib.hid h5x
        clear hi0 hi1 h1 h' hf1 hF1 e5 h5 h h5x
        go_wp2_with (go_at_call 30; refine (between_calls _ _ _ _ true hbt.out).mono ?_; rintro e w' ⟨rfl, rfl⟩)
        have hlt : (l.take j).length = j := by simp; omega
        have hltd : (l.drop j).length = l.length - j := by simp
        have ha1' : Rep.DStep.all W1.drew xs1 f G1 := Rep.all_keep ha1 (fun _ _ => rfl)
        have hr1' : Row W1.drew (some ⟨b1, o1, none⟩) xs1 := hr1
        have hfr1' : Fresh w.heap.size W1.drew G1 := hfr1.keep (fun _ _ => rfl)
        go_region_law (first
          | (go_simp; go_at_call_of 39 (Value.slice A j cap); refine (icopySteps_calls (l.take j) A j cap G _ (Rep.drew (R := Rep.sl Rep.DStep) hG) (by simp; omega) (fun s hs => hf s (List.mem_of_mem_take hs))).mono ?_; rintro e W2 ⟨A2, c2, rfl, hg2, hb2⟩; rw [hlt] at hg2; have hr2 := Row.below hr1' hb2; have ha2 := Rep.all_keep (w' := W2) ha1' (fun b hm => hb2.block b (Rep.all_lt ha1' b hm)); have hfr2 : Fresh w.heap.size W2 G1 := Fresh.below hfr1' hb2; have hbw : Below w.heap.size w W2 := hb1.trans ((Below.refl _ _).drew.trans (hb2.mono hb1.size)))
          | (refine step_growD (R := Rep.DStep) rfl (.tmp 30) (.tmp 31) 26 rfl W2 44 w.heap.size W1.drew.heap.size Try.underlying26 infoStep rfl (by decide) (.slice A2 j c2) j (l.take j) (by simp [Act.eval, Act.put]) hg2 (Below.refl _ _) (some ⟨b1, o1, none⟩) f.length c1 xs1 f G1 (by simp [Act.eval, Act.put]) rfl hr2 ha2 hfr2 (fun b hb => .inl (hlt1 b (hF1g b hb))) hb1.size hb2.size (by omega) (by decide) ?_; intro A3 c3 W3 hg3 hb3 hgr3)
          | (go_simp; go_at_call_of 39 (Value.slice A5 (l.length - j) c5); refine (icopySteps_calls (l.drop j) A5 (l.length - j) c5 G5 _ (H5.out _ (hbw.trans hb3)) (by simp; omega) (fun s hs => hf s (List.mem_of_mem_drop hs))).mono ?_; rintro e W4 ⟨A6, c6, rfl, hg6, hb6⟩; obtain ⟨F6, hr6⟩ := Grow.res hg6; obtain ⟨_, _, _, xs6, G6, hr6', ha6, hF6⟩ := Rep.sl_open hr6.rd; have hfr6 : Fresh W3.heap.size W4 G6 := hr6.fresh.sub (by rw [hF6]; exact List.sublist_append_right _ _); have hb23 := hbw.trans hb3; have hb34 := hb23.trans (hb6.mono hb23.size))
          | (refine step_growD (R := Rep.DStep) rfl (.tmp 32) (.tmp 36) 26 rfl W3 44 w.heap.size w.heap.size Try.underlying26 infoStep rfl (by decide) (.slice A3 (j + f.length) c3) (j + f.length) (l.take j ++ f) (by simp [Act.eval, Act.put]) hg3 hb6 A6 (l.length - j) c6 xs6 (l.drop j) G6 (by simp [Act.eval, Act.put]) hltd.symm hr6' ha6 (hfr6.mono hb23.size) (fun b hb => .inr (hfr6.2 b hb).1) (Nat.le_refl _) hb23.size (by omega) (by decide) ?_; intro A7 c7 W7 hg7 hb7 hgr7))
        have H : OutSl Rep.DStep (l.take j ++ f ++ l.drop j) w (.returned (.slice A7 (j + f.length + (l.length - j)) c7)) W7 := Grow.out hg7 (hb34.trans hb7)
        rw [← E.out] at H
        clear hg7 hb7 hgr7 hb34 hg3 hb3
        go_wp2
        go_ret
        exact H
    · have E := Lib.hid (show withL l a f = [] by unfold withL; rw [if_pos (.inr (.inr t3))])
      have hbf := Lib.hid (betweenB_false t3)
      clear t3 hr1 ha1 hc1
      go_wp2_with (go_at_call 30; refine (between_calls _ _ _ _ false hbf.out).mono ?_; rintro e w' ⟨rfl, rfl⟩)
      go_ret
      rw [E.out]; exact nil_out _ _ hb1
  · have E := Lib.hid (show withL l a (faultL k) = [] by unfold withL; rw [faultL_out hk, if_pos (.inl rfl)])
    have HK := Lib.hid hk
    clear hk
    go_enter Try.func19, Try.ntmps19
    go_wp2_with (go_at_call 12; refine (iFaultOf_nil _ _ HK.out).mono ?_; rintro e w' ⟨rfl, rfl⟩)
    go_ret
    rw [E.out]; exact nil_out _ _ (Below.refl _ _)
end Go.Proofs.Ytfehpceafnjmnaa
