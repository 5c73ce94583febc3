/- slices.SortFunc at due dates (at most eight): an insertion sort, as the library runs it. -/
import Derived.Test.YtmgcnmdbhahhlaaGreatWR6
import Derived.Test.YtmgcnmdbhahhlaaGreatAvRC2
set_option linter.unusedVariables false
set_option linter.unusedSimpArgs false
set_option maxRecDepth 100000
namespace Go.Proofs.YtmgcnmdbhahhlaaGreat
open Go.ChangeShapes Go.WideShapes Go.RowKit
def dk_WR7_impl_OpenJobs_1_1 : List (List Nat) := unqs [0, 1, 0, 3, 528643, 0, 6, 0, 8, 1997340265955394, 90934080700453255, 12809966333047619781, 891263496702887485899]
def fk_WR7_impl_OpenJobs_1_1 : List (List Nat) := unps 9 [19512, 19513, 19448, 19457, 19480, 17738, 17981, 2186, 4373]
def dk_WR7_slices_insertionSortCmpFunc_impl_Due__4 : List (List Nat) := unqs [0, 0, 66, 12417, 1052803, 1052803, 1052803, 6493311239, 557339386054, 1052803, 1052803, 185344068, 690449826571, 57943471169738, 1525473175458736658498253, 294124048879985284291502277, 4971722786784689118090670927]
def fk_WR7_slices_insertionSortCmpFunc_impl_Due__4 : List (List Nat) := unps 14 [6, 2, 4, 13, 4782766, 4764946, 4763974, 4764460, 4766647, 492034, 59008, 118057, 275521, 806962]
def dk_WR7_slices_insertionSortCmpFunc_impl_Due__6 : List (List Nat) := unqs [0, 0, 0, 0, 4, 0, 0, 7, 25095, 2388486, 0, 0, 716, 54027, 1190670497402630925, 1122011955258965385345, 3811747986231283145820660688, 1366980239097208828018565595459]
def fk_WR7_slices_insertionSortCmpFunc_impl_Due__6 : List (List Nat) := unps 15 [4782966, 4782962, 14348888, 14348690, 14348717, 4729994, 4724648, 4725377, 4727321, 4733882, 413342, 177146, 295244, 826685, 2391601]

def cmpI (a b : Int) : Int := if a < b then -1 else if a > b then 1 else 0
def cmpD (x y : DDue) : Int := if cmpI x.due y.due ≠ 0 then cmpI x.due y.due else cmpI x.id y.id
theorem isNaN_p (a : Int) : PCall av 350 [pI a] (rB false) := by
  have hn : (a != a) = false := neI a
  refine pcall_of av_ok Tryz.func350 rfl Tryz.call350 Tryz.ntmps350 (congrArg Array.toList Tryz.results350) fun S => ?_; conv => whnf
  repeat' (first | (refine aw0 ?_) | ((first | refine aw1 ?_ | refine aw2 ?_ | refine aw3 ?_ | refine aw4 ?_ | refine aw5 ?_ | refine aw6 ?_ | refine aw7 ?_ | refine aw8 ?_); conv => whnf) | ((first | refine bT ?_ | refine bF ?_); conv => whnf) | (exact rr) | (refine And.intro rfl ?_; conv => whnf) | (refine AB.mk (fun h => ?_) (fun h => ?_) <;> (conv => whnf)))
  all_goals rw [hn]
theorem cmpI_p (a b : Int) : PCall av 300 [pI a, pI b] (.val (pI (cmpI a b))) := by
  cases h1 : decide (a < b) with
  | true =>
    have e : cmpI a b = -1 := by simp only [cmpI, if_pos (of_decide_eq_true h1)]
    rw [e]
    refine pcall_of av_ok Tryz.func300 rfl Tryz.call300 Tryz.ntmps300 (congrArg Array.toList Tryz.results300) fun S => ?_; conv => whnf
    repeat' (first | (refine aw0 ?_) | ((first | refine aw1 ?_ | refine aw2 ?_ | refine aw3 ?_ | refine aw4 ?_ | refine aw5 ?_ | refine aw6 ?_ | refine aw7 ?_ | refine aw8 ?_); conv => whnf) | ((first | refine bT ?_ | refine bF ?_); conv => whnf) | (refine ACall.pure (isNaN_p _) rfl ?_; conv => whnf) | (refine AFCall.mk ⟨_, _, isNaN_p _, .inl rfl, ?_⟩; conv => whnf) | (exact rr) | (refine And.intro rfl ?_; conv => whnf) | (refine AB.mk (fun h => ?_) (fun h => ?_) <;> (conv => whnf)))
  | false =>
    cases h2 : decide (a > b) with
    | true =>
      have e : cmpI a b = 1 := by simp only [cmpI, if_neg (of_decide_eq_false h1), if_pos (of_decide_eq_true h2)]
      rw [e]
      refine pcall_of av_ok Tryz.func300 rfl Tryz.call300 Tryz.ntmps300 (congrArg Array.toList Tryz.results300) fun S => ?_; conv => whnf
      repeat' (first | (refine aw0 ?_) | ((first | refine aw1 ?_ | refine aw2 ?_ | refine aw3 ?_ | refine aw4 ?_ | refine aw5 ?_ | refine aw6 ?_ | refine aw7 ?_ | refine aw8 ?_); conv => whnf) | ((first | refine bT ?_ | refine bF ?_); conv => whnf) | (refine ACall.pure (isNaN_p _) rfl ?_; conv => whnf) | (refine AFCall.mk ⟨_, _, isNaN_p _, .inl rfl, ?_⟩; conv => whnf) | (exact rr) | (refine And.intro rfl ?_; conv => whnf) | (refine AB.mk (fun h => ?_) (fun h => ?_) <;> (conv => whnf)))
    | false =>
      have e : cmpI a b = 0 := by simp only [cmpI, if_neg (of_decide_eq_false h1), if_neg (of_decide_eq_false h2)]
      rw [e]
      refine pcall_of av_ok Tryz.func300 rfl Tryz.call300 Tryz.ntmps300 (congrArg Array.toList Tryz.results300) fun S => ?_; conv => whnf
      repeat' (first | (refine aw0 ?_) | ((first | refine aw1 ?_ | refine aw2 ?_ | refine aw3 ?_ | refine aw4 ?_ | refine aw5 ?_ | refine aw6 ?_ | refine aw7 ?_ | refine aw8 ?_); conv => whnf) | ((first | refine bT ?_ | refine bF ?_); conv => whnf) | (refine ACall.pure (isNaN_p _) rfl ?_; conv => whnf) | (refine AFCall.mk ⟨_, _, isNaN_p _, .inl rfl, ?_⟩; conv => whnf) | (exact rr) | (refine And.intro rfl ?_; conv => whnf) | (refine AB.mk (fun h => ?_) (fun h => ?_) <;> (conv => whnf)))
theorem cmpOr_p (a b : Int) : PCall av 299 [.one (.sl [[dI a], [dI b]])] (.val (pI (if a ≠ 0 then a else b))) := by
  cases h1 : (a != 0) with
  | true =>
    have e : (if a ≠ 0 then a else b) = a := by simp at h1; simp [h1]
    rw [e]
    refine pcall_of av_ok Tryz.func299 rfl Tryz.call299 Tryz.ntmps299 (congrArg Array.toList Tryz.results299) fun S => ?_; conv => whnf
    repeat' (first | (refine aw0 ?_) | ((first | refine aw1 ?_ | refine aw2 ?_ | refine aw3 ?_ | refine aw4 ?_ | refine aw5 ?_ | refine aw6 ?_ | refine aw7 ?_ | refine aw8 ?_); conv => whnf) | ((first | refine bT ?_ | refine bF ?_); conv => whnf) | (exact rr) | (refine And.intro rfl ?_; conv => whnf) | (refine AB.mk (fun h => ?_) (fun h => ?_) <;> (conv => whnf)))
    refine AWP.unroll 3 ?_
    conv => whnf
    repeat' (first | (refine aw0 ?_) | ((first | refine aw1 ?_ | refine aw2 ?_ | refine aw3 ?_ | refine aw4 ?_ | refine aw5 ?_ | refine aw6 ?_ | refine aw7 ?_ | refine aw8 ?_); conv => whnf) | ((first | refine bT ?_ | refine bF ?_); conv => whnf) | ((first | refine AIx.at 0 _ rfl rfl ?_ | refine AIx.at 1 _ rfl rfl ?_); conv => whnf) | (refine AW.i64 (by decide) (by decide) ?_; conv => whnf) | (exact rr) | (refine And.intro rfl ?_; conv => whnf) | (refine AB.mk (fun h => ?_) (fun h => ?_) <;> (conv => whnf)))
  | false =>
    have e : (if a ≠ 0 then a else b) = b := by simp at h1; simp [h1]
    rw [e]
    cases h2 : (b != 0) with
    | true =>
      refine pcall_of av_ok Tryz.func299 rfl Tryz.call299 Tryz.ntmps299 (congrArg Array.toList Tryz.results299) fun S => ?_; conv => whnf
      repeat' (first | (refine aw0 ?_) | ((first | refine aw1 ?_ | refine aw2 ?_ | refine aw3 ?_ | refine aw4 ?_ | refine aw5 ?_ | refine aw6 ?_ | refine aw7 ?_ | refine aw8 ?_); conv => whnf) | ((first | refine bT ?_ | refine bF ?_); conv => whnf) | (exact rr) | (refine And.intro rfl ?_; conv => whnf) | (refine AB.mk (fun h => ?_) (fun h => ?_) <;> (conv => whnf)))
      refine AWP.unroll 3 ?_
      conv => whnf
      repeat' (first | (refine aw0 ?_) | ((first | refine aw1 ?_ | refine aw2 ?_ | refine aw3 ?_ | refine aw4 ?_ | refine aw5 ?_ | refine aw6 ?_ | refine aw7 ?_ | refine aw8 ?_); conv => whnf) | ((first | refine bT ?_ | refine bF ?_); conv => whnf) | ((first | refine AIx.at 0 _ rfl rfl ?_ | refine AIx.at 1 _ rfl rfl ?_); conv => whnf) | (refine AW.i64 (by decide) (by decide) ?_; conv => whnf) | (exact rr) | (refine And.intro rfl ?_; conv => whnf) | (refine AB.mk (fun h => ?_) (fun h => ?_) <;> (conv => whnf)))
    | false =>
      have e2 : b = 0 := by simpa using h2
      refine pcall_of av_ok Tryz.func299 rfl Tryz.call299 Tryz.ntmps299 (congrArg Array.toList Tryz.results299) fun S => ?_; conv => whnf
      repeat' (first | (refine aw0 ?_) | ((first | refine aw1 ?_ | refine aw2 ?_ | refine aw3 ?_ | refine aw4 ?_ | refine aw5 ?_ | refine aw6 ?_ | refine aw7 ?_ | refine aw8 ?_); conv => whnf) | ((first | refine bT ?_ | refine bF ?_); conv => whnf) | (exact rr) | (refine And.intro rfl ?_; conv => whnf) | (refine AB.mk (fun h => ?_) (fun h => ?_) <;> (conv => whnf)))
      refine AWP.unroll 3 ?_
      conv => whnf
      repeat' (first | (refine aw0 ?_) | ((first | refine aw1 ?_ | refine aw2 ?_ | refine aw3 ?_ | refine aw4 ?_ | refine aw5 ?_ | refine aw6 ?_ | refine aw7 ?_ | refine aw8 ?_); conv => whnf) | ((first | refine bT ?_ | refine bF ?_); conv => whnf) | ((first | refine AIx.at 0 _ rfl rfl ?_ | refine AIx.at 1 _ rfl rfl ?_); conv => whnf) | (refine AW.i64 (by decide) (by decide) ?_; conv => whnf) | (exact rr) | (refine And.intro rfl ?_; conv => whnf) | (refine AB.mk (fun h => ?_) (fun h => ?_) <;> (conv => whnf)))
      all_goals rw [e2]
theorem cmpD_p (x y : DDue) : PCall av 298 [.agg x.ds, .agg y.ds] (.val (pI (cmpD x y))) := by
  refine pcall_of av_ok Tryz.func298 rfl Tryz.call298 Tryz.ntmps298 (congrArg Array.toList Tryz.results298) fun S => ?_; conv => whnf
  repeat' (first | (refine aw0 ?_) | ((first | refine aw1 ?_ | refine aw2 ?_ | refine aw3 ?_ | refine aw4 ?_ | refine aw5 ?_ | refine aw6 ?_ | refine aw7 ?_ | refine aw8 ?_); conv => whnf) | ((first | refine bT ?_ | refine bF ?_); conv => whnf) | (exact rr) | (refine And.intro rfl ?_; conv => whnf) | (refine AB.mk (fun h => ?_) (fun h => ?_) <;> (conv => whnf)))
  (refine AWP.drawK av_ok 1 9 dk_WR7_impl_OpenJobs_1_1 fk_WR7_impl_OpenJobs_1_1 (by kernel_rfl) (by kernel_rfl) (by kernel_rfl) rfl ?_; conv => whnf)
  repeat' (first | (refine aw0 ?_) | ((first | refine aw1 ?_ | refine aw2 ?_ | refine aw3 ?_ | refine aw4 ?_ | refine aw5 ?_ | refine aw6 ?_ | refine aw7 ?_ | refine aw8 ?_); conv => whnf) | ((first | refine bT ?_ | refine bF ?_); conv => whnf) | (refine ACall.pure (cmpI_p _ _) rfl ?_; conv => whnf) | (refine AFCall.mk ⟨_, _, cmpI_p _ _, .inl rfl, ?_⟩; conv => whnf) | (refine ACall.scalar (cmpOr_p _ _) rfl rfl ?_; conv => whnf) | (refine AFCall.mk ⟨_, _, cmpOr_p _ _, .inr (.inl ⟨rfl, rfl⟩), ?_⟩; conv => whnf) | (exact rr) | (refine And.intro rfl ?_; conv => whnf) | (refine AB.mk (fun h => ?_) (fun h => ?_) <;> (conv => whnf)))
  all_goals rfl
abbrev d00 : DDue := ⟨0, 0⟩
def swp (l : List DDue) (j : Nat) : List DDue := (l.set j (l.getD (j - 1) d00)).set (j - 1) (l.getD j d00)
def sinkD : Nat → List DDue → List DDue
  | 0, l => l
  | j + 1, l => if cmpD (l.getD (j + 1) d00) (l.getD j d00) < 0 then sinkD j (swp l (j + 1)) else l
def isortD (l : List DDue) : Nat → List DDue
  | 0 => l
  | k + 1 => sinkD (k + 1) (isortD l k)
theorem swp_len (l : List DDue) (j : Nat) : (swp l j).length = l.length := by simp [swp]
theorem sinkD_len : ∀ (j : Nat) (l : List DDue), (sinkD j l).length = l.length
  | 0, _ => rfl
  | j + 1, l => by
    simp only [sinkD]
    split
    · rw [sinkD_len j, swp_len]
    · rfl
theorem isortD_len (l : List DDue) : ∀ k, (isortD l k).length = l.length
  | 0 => rfl
  | k + 1 => by simp only [isortD]; rw [sinkD_len, isortD_len l k]
theorem getD_of {l : List DDue} {k : Nat} (h : k < l.length) : l.getD k d00 = l[k] := by simp [List.getD_eq_getElem?_getD, h]
theorem swp_count (p : DDue → Bool) {l : List DDue} {j : Nat} (h0 : 0 < j) (h : j < l.length) : (swp l j).countP p = l.countP p := by
  unfold swp
  have h1 : j - 1 < l.length := by omega
  rw [getD_of h, getD_of h1, List.countP_set (by simpa using h1), List.countP_set h, List.getElem_set_ne (by omega)]
  have a1 : (if p l[j] = true then 1 else 0) ≤ l.countP p := by
    split
    · rename_i hp; exact List.countP_pos_iff.2 ⟨_, List.getElem_mem h, hp⟩
    · omega
  have a2 : (if p l[j - 1] = true then 1 else 0) ≤ l.countP p - (if p l[j] = true then 1 else 0) + (if p l[j - 1] = true then 1 else 0) := by omega
  omega
theorem sinkD_count (p : DDue → Bool) : ∀ (j : Nat) (l : List DDue), j < l.length → (sinkD j l).countP p = l.countP p
  | 0, _, _ => rfl
  | j + 1, l, h => by
    simp only [sinkD]
    split
    · rw [sinkD_count p j _ (by rw [swp_len]; omega), swp_count p (by omega) h]
    · rfl
theorem isortD_count (p : DDue → Bool) (l : List DDue) : ∀ k, k < l.length ∨ k = 0 → (isortD l k).countP p = l.countP p
  | 0, _ => rfl
  | k + 1, h => by
    simp only [isortD]
    rw [sinkD_count p _ _ (by rw [isortD_len]; omega), isortD_count p l k (by omega)]
theorem swp_map {l : List DDue} {m : Nat} (h : m + 1 < l.length) : ((l.map DDue.ds).set (m + 1) (DDue.ds l[m])).set m (DDue.ds l[m + 1]) = (swp l (m + 1)).map DDue.ds := by
  unfold swp
  rw [List.map_set, List.map_set, getD_of h, show m + 1 - 1 = m by omega, getD_of (show m < l.length by omega)]
set_option maxHeartbeats 2000000 in
theorem insertD_r (l : List DDue) (h8 : l.length ≤ 8) : RCall av 363 233 2 (l.map DDue.ds) ((isortD l (l.length - 1)).map DDue.ds) [pI 0, pI (l.length : Int), .one (.pv (.func (.func 298) #[] #[]))] := by
  refine rcall_of av_ok Tryz.func363 rfl Tryz.call363 Tryz.ntmps363 (congrArg Array.toList Tryz.results363) (fun x hx => by obtain ⟨a, _, rfl⟩ := List.mem_map.1 hx; rfl) fun S v => ?_; conv => whnf
  repeat' (first | (refine aw0 ?_) | ((first | refine aw1 ?_ | refine aw2 ?_ | refine aw3 ?_ | refine aw4 ?_ | refine aw5 ?_ | refine aw6 ?_ | refine aw7 ?_ | refine aw8 ?_); conv => whnf) | ((first | refine bT ?_ | refine bF ?_); conv => whnf) | (refine AW.i64 (by decide) (by decide) ?_; conv => whnf) | (exact rr) | (refine And.intro rfl ?_; conv => whnf) | (refine AB.mk (fun h => ?_) (fun h => ?_) <;> (conv => whnf)))
  refine AWP.loopS (fun k : Nat => k ≤ l.length - 1) [8, 9, 12, 13, 14, 15, 16, 17, 18, 19, 20, 21, 22, 23, 24, 25, 26, 27, 28, 29, 30, 31, 32, 33, 34, 35, 36, 37, 38, 39, 40, 41, 42, 43, 44, 45, 46, 47, 48, 49, 50, 51, 52] (fun k => [(8, vI .i64 ((k + 1 : Nat) : Int))]) (fun k => [(9999, pinO v), (1000, .row 233 2 ((isortD l k).map DDue.ds))]) (fun k => l.length - k) 0 (Nat.zero_le _) ?_ (SubO.cons rfl (SubO.cons rfl SubO.nil)) (fun k hR => ?_) <;> (conv => whnf)
  · exact whd
  · by_cases hlt : k + 1 < l.length
    · have hc : decide (((k + 1 : Nat) : Int) < (l.length : Int)) = true := by simp <;> omega
      repeat' (first | (refine aw0 ?_) | ((first | refine aw1 ?_ | refine aw2 ?_ | refine aw3 ?_ | refine aw4 ?_ | refine aw5 ?_ | refine aw6 ?_ | refine aw7 ?_ | refine aw8 ?_); conv => whnf) | ((first | refine bT ?_ | refine bF ?_); conv => whnf) | (exact rr) | (refine And.intro rfl ?_; conv => whnf) | (refine AB.mk (fun h => ?_) (fun h => ?_) <;> (conv => whnf)))
      refine AWP.loopS (fun g : Nat × List DDue => g.1 ≤ k + 1 ∧ g.2.length = l.length ∧ sinkD g.1 g.2 = sinkD (k + 1) (isortD l k)) [9, 18, 19, 20, 21, 22, 23, 24, 25, 26, 27, 28, 29, 30, 31, 32, 33, 34, 35, 36, 37, 38, 39, 40, 41, 42, 43, 44, 45, 46, 47, 48, 49, 50, 51, 52] (fun g => [(9, vI .i64 (g.1 : Int))]) (fun g => [(9999, pinO v), (1000, .row 233 2 (g.2.map DDue.ds))]) (fun g => g.1) (k + 1, isortD l k) ⟨Nat.le_refl _, isortD_len l k, rfl⟩ ?_ (SubO.cons rfl (SubO.cons rfl SubO.nil)) (fun g hG => ?_) <;> (conv => whnf)
      · exact whd
      · obtain ⟨j, r⟩ := g
        obtain ⟨hj, hr, hs⟩ := hG
        simp only at hj hr hs
        rcases j with _ | m
        · have b1 : decide (((0 : Nat) : Int) > (0 : Int)) = false := rfl
          have hs2 : r = isortD l (k + 1) := hs
          repeat' (first | (refine aw0 ?_) | ((first | refine aw1 ?_ | refine aw2 ?_ | refine aw3 ?_ | refine aw4 ?_ | refine aw5 ?_ | refine aw6 ?_ | refine aw7 ?_ | refine aw8 ?_); conv => whnf))
          (refine AWP.drawK av_ok 4 14 dk_WR7_slices_insertionSortCmpFunc_impl_Due__4 fk_WR7_slices_insertionSortCmpFunc_impl_Due__4 (by kernel_rfl) (by kernel_rfl) (by kernel_rfl) rfl ?_; conv => whnf)
          repeat' (first | (refine aw0 ?_) | ((first | refine aw1 ?_ | refine aw2 ?_ | refine aw3 ?_ | refine aw4 ?_ | refine aw5 ?_ | refine aw6 ?_ | refine aw7 ?_ | refine aw8 ?_); conv => whnf) | ((first | refine bT ?_ | refine bF ?_); conv => whnf) | (refine AW.i64e ((k + 1 + 1 : Nat) : Int) (by omega) (by omega) (by omega) ?_; conv => whnf) | (exact rr) | (refine And.intro rfl ?_; conv => whnf) | (refine AB.mk (fun h => ?_) (fun h => ?_) <;> (conv => whnf)))
          refine ANext.mk ⟨k + 1, by omega, by omega, ?_, SubO.cons rfl (SubO.cons (congrArg some (congrArg (AO.row 233 2) (congrArg (List.map DDue.ds) hs2))) SubO.nil)⟩
          exact hds
        · have b1 : decide (((m + 1 : Nat) : Int) > (0 : Int)) = true := by simp <;> omega
          have h1 : m + 1 < r.length := by omega
          have h0 : m < r.length := by omega
          cases b2 : decide (cmpD r[m + 1] r[m] < 0) with
          | false =>
            have hs2 : r = isortD l (k + 1) := by
              rw [← show sinkD (m + 1) r = r by simp only [sinkD, getD_of h1, getD_of h0]; rw [if_neg (of_decide_eq_false b2)]]
              exact hs
            repeat' (first | (refine aw0 ?_) | ((first | refine aw1 ?_ | refine aw2 ?_ | refine aw3 ?_ | refine aw4 ?_ | refine aw5 ?_ | refine aw6 ?_ | refine aw7 ?_ | refine aw8 ?_); conv => whnf))
            (refine AWP.drawK av_ok 4 14 dk_WR7_slices_insertionSortCmpFunc_impl_Due__4 fk_WR7_slices_insertionSortCmpFunc_impl_Due__4 (by kernel_rfl) (by kernel_rfl) (by kernel_rfl) rfl ?_; conv => whnf)
            repeat' (first | (refine aw0 ?_) | ((first | refine aw1 ?_ | refine aw2 ?_ | refine aw3 ?_ | refine aw4 ?_ | refine aw5 ?_ | refine aw6 ?_ | refine aw7 ?_ | refine aw8 ?_); conv => whnf) | ((first | refine bT ?_ | refine bF ?_); conv => whnf) | (refine AIx.map h1 ?_; conv => whnf) | (refine AIx.map h0 ?_; conv => whnf) | (refine AW.i64e (m : Int) (by omega) (by omega) (by omega) ?_; conv => whnf) | (refine ACall.pure (cmpD_p _ _) rfl ?_; conv => whnf) | (refine AFCall.mk ⟨_, _, cmpD_p _ _, .inl rfl, ?_⟩; conv => whnf) | (refine AW.i64e ((k + 1 + 1 : Nat) : Int) (by omega) (by omega) (by omega) ?_; conv => whnf) | (exact rr) | (refine And.intro rfl ?_; conv => whnf) | (refine AB.mk (fun h => ?_) (fun h => ?_) <;> (conv => whnf)))
            refine ANext.mk ⟨k + 1, by omega, by omega, ?_, SubO.cons rfl (SubO.cons (congrArg some (congrArg (AO.row 233 2) (congrArg (List.map DDue.ds) hs2))) SubO.nil)⟩
            exact hds
          | true =>
            have hs2 : sinkD m (swp r (m + 1)) = sinkD (k + 1) (isortD l k) := by
              rw [← hs]
              simp only [sinkD, getD_of h1, getD_of h0]
              rw [if_pos (of_decide_eq_true b2)]
            have hx : ((r.map DDue.ds).set (m + 1) (DDue.ds r[m]))[m]? = some (DDue.ds r[m]) := by
              rw [List.getElem?_set_ne (by omega), List.getElem?_map, List.getElem?_eq_getElem h0]; rfl
            repeat' (first | (refine aw0 ?_) | ((first | refine aw1 ?_ | refine aw2 ?_ | refine aw3 ?_ | refine aw4 ?_ | refine aw5 ?_ | refine aw6 ?_ | refine aw7 ?_ | refine aw8 ?_); conv => whnf))
            (refine AWP.drawK av_ok 4 14 dk_WR7_slices_insertionSortCmpFunc_impl_Due__4 fk_WR7_slices_insertionSortCmpFunc_impl_Due__4 (by kernel_rfl) (by kernel_rfl) (by kernel_rfl) rfl ?_; conv => whnf)
            repeat' (first | (refine aw0 ?_) | ((first | refine aw1 ?_ | refine aw2 ?_ | refine aw3 ?_ | refine aw4 ?_ | refine aw5 ?_ | refine aw6 ?_ | refine aw7 ?_ | refine aw8 ?_); conv => whnf) | ((first | refine bT ?_ | refine bF ?_); conv => whnf) | (refine AIx.map h1 ?_; conv => whnf) | (refine AIx.map h0 ?_; conv => whnf) | (refine AW.i64e (m : Int) (by omega) (by omega) (by omega) ?_; conv => whnf) | (refine ACall.pure (cmpD_p _ _) rfl ?_; conv => whnf) | (refine AFCall.mk ⟨_, _, cmpD_p _ _, .inl rfl, ?_⟩; conv => whnf) | (exact rr) | (refine And.intro rfl ?_; conv => whnf) | (refine AB.mk (fun h => ?_) (fun h => ?_) <;> (conv => whnf)))
            (refine AWP.drawSO av_ok 6 15 dk_WR7_slices_insertionSortCmpFunc_impl_Due__6 fk_WR7_slices_insertionSortCmpFunc_impl_Due__6 14 9 (by kernel_rfl) (by kernel_rfl) (by kernel_rfl) rfl ⟨_, rfl, rfl, rfl, rfl⟩ rfl rfl rfl rfl ?_; conv => whnf)
            repeat' (first | (refine aw0 ?_) | ((first | refine aw1 ?_ | refine aw2 ?_ | refine aw3 ?_ | refine aw4 ?_ | refine aw5 ?_ | refine aw6 ?_ | refine aw7 ?_ | refine aw8 ?_); conv => whnf) | ((first | refine bT ?_ | refine bF ?_); conv => whnf) | (refine AIx.map h1 ?_; conv => whnf) | (refine AIx.map h0 ?_; conv => whnf) | (refine AW.i64e (m : Int) (by omega) (by omega) (by omega) ?_; conv => whnf) | (exact rr) | (refine And.intro rfl ?_; conv => whnf) | (refine AB.mk (fun h => ?_) (fun h => ?_) <;> (conv => whnf)))
            refine ⟨_, _, _, _, _, ?o1, rfl, rfl, rfl, rfl, ?hst, ?hk⟩
            case hst =>
              conv => whnf
              (refine AIx.map h1 ?_; conv => whnf)
            conv => whnf
            refine ⟨rfl, ?_, ?_⟩
            · repeat' (first | exact trivial | exact ⟨rfl, rfl⟩ | (refine AW.i64e (m : Int) (by omega) (by omega) (by omega) ?_; conv => whnf) | (refine ⟨?_, ?_⟩ <;> (conv => whnf)))
            conv => whnf
            repeat' (first | (refine aw0 ?_) | ((first | refine aw1 ?_ | refine aw2 ?_ | refine aw3 ?_ | refine aw4 ?_ | refine aw5 ?_ | refine aw6 ?_ | refine aw7 ?_ | refine aw8 ?_); conv => whnf) | ((first | refine bT ?_ | refine bF ?_); conv => whnf) | (exact rr) | (refine And.intro rfl ?_; conv => whnf) | (refine AB.mk (fun h => ?_) (fun h => ?_) <;> (conv => whnf)) | (refine AW.i64e (m : Int) (by omega) (by omega) (by omega) ?_; conv => whnf) | (refine AIx.at m _ rfl hx ?_; conv => whnf))
            refine ANext.mk ⟨(m, swp r (m + 1)), ⟨by simp only; omega, by simp only; rw [swp_len]; exact hr, hs2⟩, by simp only; omega, ?_, SubO.cons rfl (SubO.cons (congrArg some (congrArg (AO.row 233 2) (swp_map h1))) SubO.nil)⟩
            exact hds
    · have e : k = l.length - 1 := by omega
      have hc : decide (((k + 1 : Nat) : Int) < (l.length : Int)) = false := by simp <;> omega
      subst e
      repeat' (first | (refine aw0 ?_) | ((first | refine aw1 ?_ | refine aw2 ?_ | refine aw3 ?_ | refine aw4 ?_ | refine aw5 ?_ | refine aw6 ?_ | refine aw7 ?_ | refine aw8 ?_); conv => whnf) | ((first | refine bT ?_ | refine bF ?_); conv => whnf) | (exact rr) | (refine And.intro rfl ?_; conv => whnf) | (refine AB.mk (fun h => ?_) (fun h => ?_) <;> (conv => whnf)))
end Go.Proofs.YtmgcnmdbhahhlaaGreat
