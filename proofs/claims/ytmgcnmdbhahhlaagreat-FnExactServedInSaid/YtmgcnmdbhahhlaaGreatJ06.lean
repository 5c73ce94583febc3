/- Joined: WA1 WA2 -/
import Derived.Test.YtmgcnmdbhahhlaaGreatJ04
set_option linter.unusedVariables false
set_option linter.unusedSimpArgs false
set_option maxRecDepth 100000
namespace Go.Proofs.YtmgcnmdbhahhlaaGreat
open Go.ChangeShapes Go.WideShapes Go.RowKit
def dk_WA1_spec_DiskOk_11 : List (List Nat) := unqs [0, 0, 2, 0, 12420, 1327235, 101458181, 76320612550, 35599944798657, 2538159309599112, 182422381561933897, 12844578746489659914, 182422381561933897, 57415599869313423807181, 4293453185968282837484172, 293816795099147061053141838, 20081821632468054499984974607, 1365683037628839150997648233360, 51347335601647746243218769757137]
def fk_WA1_spec_DiskOk_11 : List (List Nat) := unps 13 [2184, 56, 59, 26, 41, 122, 365, 1093, 3280, 9841, 1092406, 1151455, 501916]

theorem rB_of {a b : Bool} (h : a = b) : AP.val (.one (dB a)) = rB b := by rw [h]
theorem step_all {α : Type} {l : List α} {p : α → Bool} {k : Nat} (hall : ∀ (j : Nat) (hj : j < k) (hl : j < l.length), p l[j] = true) (hlt : k < l.length) (h : p l[k] = true) : ∀ (j : Nat) (hj : j < k + 1) (hl : j < l.length), p l[j] = true := by
  intro j hj hl
  by_cases hjk : j = k
  · subst hjk; exact h
  · exact hall j (by omega) hl
theorem end_all {α : Type} {l : List α} {p : α → Bool} {k : Nat} (hall : ∀ (j : Nat) (hj : j < k) (hl : j < l.length), p l[j] = true) (hk : k = l.length) : l.all p = true := all_yes fun j hj => hall j (by omega) hj

theorem rowOk_len {l : List Int} (h : ¬ l.length ≤ 48) : rowOk l = false := by simp [rowOk, h]
theorem rowOk_no {l : List Int} {k : Nat} (hk : k < l.length) (h : betweenB l[k] 0 1000000000 = false) : rowOk l = false := by
  have := all_no (p := fun x => betweenB x 0 1000000000) hk h
  simp only [rowOk, this, Bool.and_false]
theorem iRowOk_p (l : List Int) : PCall av 165 [.one (dIs l)] (rB (rowOk l)) := by
  refine pcall_of av_ok Tryz.func165 rfl Tryz.call165 Tryz.ntmps165 (congrArg Array.toList Tryz.results165) fun S => ?_; conv => whnf
  repeat' (first | (refine aw0 ?_) | ((first | refine aw1 ?_ | refine aw2 ?_ | refine aw3 ?_ | refine aw4 ?_ | refine aw5 ?_ | refine aw6 ?_ | refine aw7 ?_ | refine aw8 ?_); conv => whnf) | ((first | refine bT ?_ | refine bF ?_); conv => whnf) | (exact rr) | (refine And.intro rfl ?_; conv => whnf) | (refine AB.mk (fun h => ?_) (fun h => ?_) <;> (conv => whnf)))
  · rw [rowOk_len ari]
  · have h48 : l.length ≤ 48 := ari
    clear h
    refine AWP.loopS (fun k : Nat => k ≤ l.length ∧ ∀ (j : Nat) (hj : j < k) (hl : j < l.length), betweenB l[j] 0 1000000000 = true) [2, 4, 10, 11, 12, 13, 14, 15, 16, 17] (fun k => [(10, vI .i64 (k : Int))]) (fun _ => []) (fun k => l.length - k) 0 ⟨by omega, by omega⟩ ?_ SubO.nil (fun k hR => ?_) <;> (conv => whnf)
    · exact whd
    · obtain ⟨hk, hall⟩ := hR
      repeat' (first | (refine aw0 ?_) | ((first | refine aw1 ?_ | refine aw2 ?_ | refine aw3 ?_ | refine aw4 ?_ | refine aw5 ?_ | refine aw6 ?_ | refine aw7 ?_ | refine aw8 ?_); conv => whnf) | ((first | refine bT ?_ | refine bF ?_); conv => whnf) | (refine AIx.mapF ari (fun hlt => ?_); conv => whnf) | (refine AW.i64 ari ari ?_; conv => whnf) | (refine ACall.pure (ibetween_p _ _ _) rfl ?_; conv => whnf) | (refine AFCall.mk ⟨_, _, ibetween_p _ _ _, .inl rfl, ?_⟩; conv => whnf) | (exact rr) | (refine And.intro rfl ?_; conv => whnf) | (refine AB.mk (fun h => ?_) (fun h => ?_) <;> (conv => whnf)))
      · rw [rowOk_no hlt (by simpa using h)]
      · refine ANext.mk ⟨k + 1, ⟨hlt, step_all (p := fun x => betweenB x 0 1000000000) hall hlt (by simpa using h)⟩, by omega, ?_, SubO.nil⟩
        exact hds
      · refine rB_of ?_
        simp only [rowOk, end_all (p := fun x => betweenB x 0 1000000000) hall ari, h48, decide_true, Bool.and_self]
theorem sRowOk_p (l : List Int) : PCall av 163 [.one (dIs l)] (rB (rowOk l)) := by
  refine pcall_of av_ok Tryz.func163 rfl Tryz.call163 Tryz.ntmps163 (congrArg Array.toList Tryz.results163) fun S => ?_; conv => whnf
  repeat' (first | (refine aw0 ?_) | ((first | refine aw1 ?_ | refine aw2 ?_ | refine aw3 ?_ | refine aw4 ?_ | refine aw5 ?_ | refine aw6 ?_ | refine aw7 ?_ | refine aw8 ?_); conv => whnf) | ((first | refine bT ?_ | refine bF ?_); conv => whnf) | (exact rr) | (refine And.intro rfl ?_; conv => whnf) | (refine AB.mk (fun h => ?_) (fun h => ?_) <;> (conv => whnf)))
  · rw [rowOk_len ari]
  · have h48 : l.length ≤ 48 := ari
    clear h
    refine AWP.loopS (fun k : Nat => k ≤ l.length ∧ ∀ (j : Nat) (hj : j < k) (hl : j < l.length), betweenB l[j] 0 1000000000 = true) [2, 3, 7, 8, 9, 10, 11, 12, 13, 14, 15, 16, 17, 18] (fun k => [(3, vI .i64 (k : Int))]) (fun _ => []) (fun k => l.length - k) 0 ⟨by omega, by omega⟩ ?_ SubO.nil (fun k hR => ?_) <;> (conv => whnf)
    · exact whd
    · obtain ⟨hk, hall⟩ := hR
      repeat' (first | (refine aw0 ?_) | ((first | refine aw1 ?_ | refine aw2 ?_ | refine aw3 ?_ | refine aw4 ?_ | refine aw5 ?_ | refine aw6 ?_ | refine aw7 ?_ | refine aw8 ?_); conv => whnf) | ((first | refine bT ?_ | refine bF ?_); conv => whnf) | (refine AIx.mapF ari (fun hlt => ?_); conv => whnf) | (refine AW.i64 ari ari ?_; conv => whnf) | (refine ACall.pure (sl1In_p _ _ _) rfl ?_; conv => whnf) | (refine AFCall.mk ⟨_, _, sl1In_p _ _ _, .inl rfl, ?_⟩; conv => whnf) | (exact rr) | (refine And.intro rfl ?_; conv => whnf) | (refine AB.mk (fun h => ?_) (fun h => ?_) <;> (conv => whnf)))
      · rw [rowOk_no hlt (by simpa using h)]
      · refine ANext.mk ⟨k + 1, ⟨hlt, step_all (p := fun x => betweenB x 0 1000000000) hall hlt (by simpa using h)⟩, by omega, ?_, SubO.nil⟩
        exact hds
      · refine rB_of ?_
        simp only [rowOk, end_all (p := fun x => betweenB x 0 1000000000) hall ari, h48, decide_true, Bool.and_self]
theorem isectorOk_p (d : DDisk) (at_ : Int) (hs : d.kept.length ≤ 40) : PCall av 286 [.agg d.ds, pI at_] (rB (betweenB at_ 0 ((d.kept.length : Int) - 1))) := by
  have e : ((d.kept.map eIIw).length : Int) = d.kept.length := by simp
  refine pcall_of av_ok Tryz.func286 rfl Tryz.call286 Tryz.ntmps286 (congrArg Array.toList Tryz.results286) fun S => ?_; conv => whnf
  repeat' (first | (refine aw0 ?_) | ((first | refine aw1 ?_ | refine aw2 ?_ | refine aw3 ?_ | refine aw4 ?_ | refine aw5 ?_ | refine aw6 ?_ | refine aw7 ?_ | refine aw8 ?_); conv => whnf) | ((first | refine bT ?_ | refine bF ?_); conv => whnf) | (refine AW.i64 (n := _ - _) ari ari ?_; conv => whnf) | (refine ACall.pure (ibetween_p _ _ _) rfl ?_; conv => whnf) | (refine AFCall.mk ⟨_, _, ibetween_p _ _ _, .inl rfl, ?_⟩; conv => whnf) | (exact rr) | (refine And.intro rfl ?_; conv => whnf) | (refine AB.mk (fun h => ?_) (fun h => ?_) <;> (conv => whnf)))
  rw [e]
theorem sl3Has_p (d : DDisk) (at_ : Int) (hs : d.kept.length ≤ 40) : PCall av 311 [.agg d.ds, pI at_] (rB (betweenB at_ 0 ((d.kept.length : Int) - 1))) := by
  have e : ((d.kept.map eIIw).length : Int) = d.kept.length := by simp
  refine pcall_of av_ok Tryz.func311 rfl Tryz.call311 Tryz.ntmps311 (congrArg Array.toList Tryz.results311) fun S => ?_; conv => whnf
  repeat' (first | (refine aw0 ?_) | ((first | refine aw1 ?_ | refine aw2 ?_ | refine aw3 ?_ | refine aw4 ?_ | refine aw5 ?_ | refine aw6 ?_ | refine aw7 ?_ | refine aw8 ?_); conv => whnf) | ((first | refine bT ?_ | refine bF ?_); conv => whnf) | (refine AW.i64 (n := _ - _) ari ari ?_; conv => whnf) | (refine ACall.pure (sl1In_p _ _ _) rfl ?_; conv => whnf) | (refine AFCall.mk ⟨_, _, sl1In_p _ _ _, .inl rfl, ?_⟩; conv => whnf) | (exact rr) | (refine And.intro rfl ?_; conv => whnf) | (refine AB.mk (fun h => ?_) (fun h => ?_) <;> (conv => whnf)))
  rw [e]
theorem diskOk_len {d : DDisk} (h : ¬ (1 ≤ d.kept.length ∧ d.kept.length ≤ 40 ∧ d.wait.length ≤ 60)) : diskOk d = false := by
  have : (decide (1 ≤ d.kept.length) && decide (d.kept.length ≤ 40) && decide (d.wait.length ≤ 60)) = false := by
    simp only [Bool.and_eq_false_iff, decide_eq_false_iff_not]
    omega
  simp only [diskOk, this, Bool.false_and]
theorem diskOk_row {d : DDisk} {k : Nat} (hk : k < d.kept.length) (h : rowOk d.kept[k] = false) : diskOk d = false := by
  have := all_no (p := rowOk) hk h
  simp only [diskOk, this, Bool.and_false, Bool.false_and]
theorem diskOk_wait {d : DDisk} {k : Nat} (hk : k < d.wait.length) (h : writeOk d.kept.length d.wait[k] = false) : diskOk d = false := by
  have := all_no (p := writeOk d.kept.length) hk h
  simp only [diskOk, this, Bool.and_false]
theorem iDiskOk_p (d : DDisk) : PCall av 217 [.agg d.ds] (rB (diskOk d)) := by
  refine pcall_of av_ok Tryz.func217 rfl Tryz.call217 Tryz.ntmps217 (congrArg Array.toList Tryz.results217) fun S => ?_; conv => whnf
  repeat' (first | (refine aw0 ?_) | ((first | refine aw1 ?_ | refine aw2 ?_ | refine aw3 ?_ | refine aw4 ?_ | refine aw5 ?_ | refine aw6 ?_ | refine aw7 ?_ | refine aw8 ?_); conv => whnf) | ((first | refine bT ?_ | refine bF ?_); conv => whnf) | (exact rr) | (refine And.intro rfl ?_; conv => whnf) | (refine AB.mk (fun h => ?_) (fun h => ?_) <;> (conv => whnf)))
  · rw [diskOk_len ari]
  · rw [diskOk_len ari]
  · rw [diskOk_len ari]
  · have h1 : 1 ≤ d.kept.length := ari
    have h2 : d.kept.length ≤ 40 := ari
    have h3 : d.wait.length ≤ 60 := ari
    clear h
    refine AWP.loopS (fun k : Nat => k ≤ d.kept.length ∧ ∀ (j : Nat) (hj : j < k) (hl : j < d.kept.length), rowOk d.kept[j] = true) [2, 4, 26, 27, 28, 29, 30, 31, 32, 33] (fun k => [(26, vI .i64 (k : Int))]) (fun _ => [(1, .cells 70 (d.ds.map .d))]) (fun k => d.kept.length - k) 0 ⟨by omega, by omega⟩ ?_ (SubO.cons rfl SubO.nil) (fun k hR => ?_) <;> (conv => whnf)
    · exact whd
    · obtain ⟨hk, hall⟩ := hR
      repeat' (first | (refine aw0 ?_) | ((first | refine aw1 ?_ | refine aw2 ?_ | refine aw3 ?_ | refine aw4 ?_ | refine aw5 ?_ | refine aw6 ?_ | refine aw7 ?_ | refine aw8 ?_); conv => whnf) | ((first | refine bT ?_ | refine bF ?_); conv => whnf) | (refine AIx.mapF ari (fun hlt => ?_); conv => whnf) | (refine AW.i64 ari ari ?_; conv => whnf) | (refine ACall.pure (iRowOk_p _) rfl ?_; conv => whnf) | (refine AFCall.mk ⟨_, _, iRowOk_p _, .inl rfl, ?_⟩; conv => whnf) | (exact rr) | (refine And.intro rfl ?_; conv => whnf) | (refine AB.mk (fun h => ?_) (fun h => ?_) <;> (conv => whnf)))
      · rw [diskOk_row hlt (by simpa using h)]
      · refine ANext.mk ⟨k + 1, ⟨hlt, step_all (p := rowOk) hall hlt (by simpa using h)⟩, by omega, ?_, SubO.cons rfl SubO.nil⟩
        exact hds
      · have hrows := end_all (p := rowOk) hall ari
        clear hall hk h
        refine AWP.loopS (fun k : Nat => k ≤ d.wait.length ∧ ∀ (j : Nat) (hj : j < k) (hl : j < d.wait.length), writeOk d.kept.length d.wait[j] = true) [2, 6, 37, 38, 39, 40, 41, 42, 43, 44, 45, 46, 47, 48, 49, 50, 51, 52] (fun k => [(37, vI .i64 (k : Int))]) (fun _ => [(1, .cells 70 (d.ds.map .d))]) (fun k => d.wait.length - k) 0 ⟨by omega, by omega⟩ ?_ (SubO.cons rfl SubO.nil) (fun k hR => ?_) <;> (conv => whnf)
        · exact whd
        · obtain ⟨hk, hall⟩ := hR
          repeat' (first | (refine aw0 ?_) | ((first | refine aw1 ?_ | refine aw2 ?_ | refine aw3 ?_ | refine aw4 ?_ | refine aw5 ?_ | refine aw6 ?_ | refine aw7 ?_ | refine aw8 ?_); conv => whnf) | ((first | refine bT ?_ | refine bF ?_); conv => whnf) | (refine AIx.mapF ari (fun hlt => ?_); conv => whnf) | (refine AW.i64 ari ari ?_; conv => whnf) | (refine ACall.pure (isectorOk_p d _ h2) rfl ?_; conv => whnf) | (refine AFCall.mk ⟨_, _, isectorOk_p d _ h2, .inl rfl, ?_⟩; conv => whnf) | (refine ACall.pure (iRowOk_p _) rfl ?_; conv => whnf) | (refine AFCall.mk ⟨_, _, iRowOk_p _, .inl rfl, ?_⟩; conv => whnf) | (exact rr) | (refine And.intro rfl ?_; conv => whnf) | (refine AB.mk (fun h => ?_) (fun h => ?_) <;> (conv => whnf)))
          all_goals first
            | (rw [diskOk_wait hlt (by simp_all [writeOk])]; done)
            | (refine ANext.mk ⟨k + 1, ⟨hlt, step_all (p := writeOk d.kept.length) hall hlt (by simp_all [writeOk])⟩, by omega, ?_, SubO.cons rfl SubO.nil⟩
               exact hds)
            | (refine rB_of ?_
               simp only [diskOk, hrows, end_all (p := writeOk d.kept.length) hall ari, h1, h2, h3, decide_true, Bool.and_self])
theorem sDiskOk_p (d : DDisk) : PCall av 255 [.agg d.ds] (rB (diskOk d)) := by
  refine pcall_of av_ok Tryz.func255 rfl Tryz.call255 Tryz.ntmps255 (congrArg Array.toList Tryz.results255) fun S => ?_; conv => whnf
  repeat' (first | (refine aw0 ?_) | ((first | refine aw1 ?_ | refine aw2 ?_ | refine aw3 ?_ | refine aw4 ?_ | refine aw5 ?_ | refine aw6 ?_ | refine aw7 ?_ | refine aw8 ?_); conv => whnf) | ((first | refine bT ?_ | refine bF ?_); conv => whnf) | (exact rr) | (refine And.intro rfl ?_; conv => whnf) | (refine AB.mk (fun h => ?_) (fun h => ?_) <;> (conv => whnf)))
  · rw [diskOk_len ari]
  · rw [diskOk_len ari]
  · rw [diskOk_len ari]
  · have h1 : 1 ≤ d.kept.length := ari
    have h2 : d.kept.length ≤ 40 := ari
    have h3 : d.wait.length ≤ 60 := ari
    clear h
    refine AWP.loopS (fun k : Nat => k ≤ d.kept.length ∧ ∀ (j : Nat) (hj : j < k) (hl : j < d.kept.length), rowOk d.kept[j] = true) [2, 3, 21, 22, 23, 24, 25, 26, 27, 28, 29, 30, 31, 32, 33, 34] (fun k => [(3, vI .i64 (k : Int))]) (fun _ => [(1, .cells 70 (d.ds.map .d))]) (fun k => d.kept.length - k) 0 ⟨by omega, by omega⟩ ?_ (SubO.cons rfl SubO.nil) (fun k hR => ?_) <;> (conv => whnf)
    · exact whd
    · obtain ⟨hk, hall⟩ := hR
      repeat' (first | (refine aw0 ?_) | ((first | refine aw1 ?_ | refine aw2 ?_ | refine aw3 ?_ | refine aw4 ?_ | refine aw5 ?_ | refine aw6 ?_ | refine aw7 ?_ | refine aw8 ?_); conv => whnf) | ((first | refine bT ?_ | refine bF ?_); conv => whnf) | (refine AIx.mapF ari (fun hlt => ?_); conv => whnf) | (refine AW.i64 ari ari ?_; conv => whnf) | (refine ACall.pure (sRowOk_p _) rfl ?_; conv => whnf) | (refine AFCall.mk ⟨_, _, sRowOk_p _, .inl rfl, ?_⟩; conv => whnf) | (exact rr) | (refine And.intro rfl ?_; conv => whnf) | (refine AB.mk (fun h => ?_) (fun h => ?_) <;> (conv => whnf)))
      · rw [diskOk_row hlt (by simpa using h)]
      · refine ANext.mk ⟨k + 1, ⟨hlt, step_all (p := rowOk) hall hlt (by simpa using h)⟩, by omega, ?_, SubO.cons rfl SubO.nil⟩
        exact hds
      · have hrows := end_all (p := rowOk) hall ari
        clear hall hk h
        refine AWP.loopS (fun k : Nat => k ≤ d.wait.length ∧ ∀ (j : Nat) (hj : j < k) (hl : j < d.wait.length), writeOk d.kept.length d.wait[j] = true) [2, 4, 35, 36, 37, 38, 39, 40, 41, 42, 43, 44, 45, 46, 47, 48, 49, 50, 51, 52, 53, 54, 55, 56, 57, 58, 59, 60] (fun k => [(4, vI .i64 (k : Int))]) (fun _ => [(1, .cells 70 (d.ds.map .d))]) (fun k => d.wait.length - k) 0 ⟨by omega, by omega⟩ ?_ (SubO.cons rfl SubO.nil) (fun k hR => ?_) <;> (conv => whnf)
        · exact whd
        · obtain ⟨hk, hall⟩ := hR
          repeat' (first | (refine aw0 ?_) | ((first | refine aw1 ?_ | refine aw2 ?_ | refine aw3 ?_ | refine aw4 ?_ | refine aw5 ?_ | refine aw6 ?_ | refine aw7 ?_ | refine aw8 ?_); conv => whnf) | ((first | refine bT ?_ | refine bF ?_); conv => whnf) | (refine AWP.drawK av_ok 11 13 dk_WA1_spec_DiskOk_11 fk_WA1_spec_DiskOk_11 (by kernel_rfl) (by kernel_rfl) (by kernel_rfl) rfl ?_; conv => whnf) | (refine AIx.mapF ari (fun hlt => ?_); conv => whnf) | (refine AW.i64 ari ari ?_; conv => whnf) | (refine ACall.pure (sl3Has_p d _ h2) rfl ?_; conv => whnf) | (refine AFCall.mk ⟨_, _, sl3Has_p d _ h2, .inl rfl, ?_⟩; conv => whnf) | (refine ACall.pure (sRowOk_p _) rfl ?_; conv => whnf) | (refine AFCall.mk ⟨_, _, sRowOk_p _, .inl rfl, ?_⟩; conv => whnf) | (exact rr) | (refine And.intro rfl ?_; conv => whnf) | (refine AB.mk (fun h => ?_) (fun h => ?_) <;> (conv => whnf)))
          all_goals first
            | (rw [diskOk_wait hlt (by simp_all [writeOk])]; done)
            | (refine ANext.mk ⟨k + 1, ⟨hlt, step_all (p := writeOk d.kept.length) hall hlt (by simp_all [writeOk])⟩, by omega, ?_, SubO.cons rfl SubO.nil⟩
               exact hds)
            | (refine rB_of ?_
               simp only [diskOk, hrows, end_all (p := writeOk d.kept.length) hall ari, h1, h2, h3, decide_true, Bool.and_self])
end Go.Proofs.YtmgcnmdbhahhlaaGreat
namespace Go.Proofs.YtmgcnmdbhahhlaaGreat
open Go.ChangeShapes Go.WideShapes Go.RowKit
def dk_WA2_impl_NetOk_12 : List (List Nat) := unqs [0, 1, 0, 3, 528643, 84688962, 6476284101, 486456430726, 35598854271303, 486456430726, 44394947293511, 10503815176037892810, 522328615224468877833, 62064271462320198136135, 4264669400025568119652941, 294114310081099494610194894, 20079979470167720758043775823, 1365702078587684106745299628944, 92555961902523251036277432439761, 1365702078587684106745299628944, 102697166704349086248251058082769, 25613342525602691447650973971256517972, 1898579654498538553515499365527662687315, 1365702078587684106745299628944, 8119242556706811315658977143619271613826456, 566002918510602468683893843127845943626241239, 24602301488906423948961528814919994170672244249, 1288917237452834698431029975546430322336596558801]
def fk_WA2_impl_NetOk_12 : List (List Nat) := unps 24 [72, 73, 8, 17, 40, 121, 364, 158557, 160744, 18589, 38272, 88573, 265720, 797161, 2391484, 7174453, 21523360, 197649019471, 197778159634, 189384049039, 190546310506, 193516534255, 203976887458, 94078608745]
def dk_WA2_spec_NetOk_12 : List (List Nat) := unqs [0, 1, 129, 12354, 1056835, 84676740, 6510088389, 486455648518, 35601017745735, 1420639959544200, 182422663955222725, 12773057508086145546, 897118766031192731979, 12773057508086145546, 1044692718620869144907, 254804950867242602876945358, 13714966066789312667963683597, 1363208697787790677710463054155, 92148601044707032918512306537297, 6253097876168526412253434026414802, 421281259149647460389224493955994707, 28313986175558019021364168043577783444, 1898515018650738986513470708487908824277, 28313986175558019021364168043577783444, 2068656202111208218245158012203792930005, 520339481158209813593658008738527969100785240, 37652490628674061534872091696306030714472969559, 28313986175558019021364168043577783444, 159973487346561542562477585137151576684277530986140, 11016286098325919531521200713218472422092833913918939, 510059430358465878414296464190246256277998880524707613, 27850205761078480999127350412056121497280325358127236309]
def fk_WA2_spec_NetOk_12 : List (List Nat) := unps 28 [0, 1, 4, 13, 40, 121, 364, 1093, 3280, 9841, 29524, 12843157, 13020304, 1505749, 3100072, 7174453, 21523360, 64570081, 193710244, 581130733, 1743392200, 16009570577191, 16020030930394, 15340107972199, 15434251151026, 15674839274695, 16522127884138, 7620367308385]

theorem AIx.mapP {α : Type} {enc : α → List AD} {l : List α} {k : Nat} {K : Nat → List AD → Prop} (h0 : 0 < k) (hk : k ≤ l.length) (h : ∀ _ : k - 1 < l.length, K (k - 1) (enc l[k - 1])) : AIx (l.map enc) ((k : Int) - 1) K := by
  have e : ((k : Int) - 1) = ((k - 1 : Nat) : Int) := by omega
  rw [e]
  exact AIx.map (by omega) (h (by omega))
/-- An element and the one before it. -/
def chainAt {α : Type} (P : α → Bool) (Q : α → α → Bool) (l : List α) (k : Nat) (hk : k < l.length) : Bool := P l[k] && (if h : 0 < k then Q (l[k - 1]'(by omega)) l[k] else true)
theorem chain_no {α : Type} {P : α → Bool} {Q : α → α → Bool} {l : List α} {k : Nat} (hk : k < l.length) (h : chainAt P Q l k hk = false) : (l.all P && adjB Q l) = false := by
  unfold chainAt at h
  cases hp : P l[k] with
  | false => rw [all_no hk hp]; rfl
  | true =>
    rw [hp] at h
    simp only [Bool.true_and] at h
    split at h
    · rename_i h0
      obtain ⟨j, rfl⟩ : ∃ j, k = j + 1 := ⟨k - 1, by omega⟩
      rw [adjB_no (Q := Q) hk (by simpa using h), Bool.and_false]
    · cases h
theorem chain_yes {α : Type} {P : α → Bool} {Q : α → α → Bool} {l : List α} (h : ∀ (j : Nat) (hl : j < l.length), chainAt P Q l j hl = true) : (l.all P && adjB Q l) = true := by
  rw [Bool.and_eq_true]
  refine ⟨all_yes fun k hk => ?_, adjB_yes fun k hk => ?_⟩
  · have := h k hk
    unfold chainAt at this
    exact (Bool.and_eq_true_iff.1 this).1
  · have := h (k + 1) hk
    unfold chainAt at this
    have := (Bool.and_eq_true_iff.1 this).2
    simpa using this
theorem step_chain {α : Type} {P : α → Bool} {Q : α → α → Bool} {l : List α} {k : Nat} (hall : ∀ (j : Nat) (hj : j < k) (hl : j < l.length), chainAt P Q l j hl = true) (hlt : k < l.length) (h : chainAt P Q l k hlt = true) : ∀ (j : Nat) (hj : j < k + 1) (hl : j < l.length), chainAt P Q l j hl = true := by
  intro j hj hl
  by_cases hjk : j = k
  · subst hjk; exact h
  · exact hall j (by omega) hl
theorem end_chain {α : Type} {P : α → Bool} {Q : α → α → Bool} {l : List α} {k : Nat} (hall : ∀ (j : Nat) (hj : j < k) (hl : j < l.length), chainAt P Q l j hl = true) (hk : k = l.length) : (l.all P && adjB Q l) = true := chain_yes fun j hj => hall j (by omega) hj
theorem chainAt_pos {α : Type} {P : α → Bool} {Q : α → α → Bool} {l : List α} {k : Nat} (hk : k < l.length) (h : 0 < k) : chainAt P Q l k hk = (P l[k] && Q (l[k - 1]'(by omega)) l[k]) := by simp [chainAt, h]
theorem chainAt_zero {α : Type} {P : α → Bool} {Q : α → α → Bool} {l : List α} {k : Nat} (hk : k < l.length) (h : ¬ 0 < k) : chainAt P Q l k hk = P l[k] := by simp [chainAt, h]
theorem chainAt_P {α : Type} {P : α → Bool} {Q : α → α → Bool} {l : List α} {k : Nat} (hk : k < l.length) (h : P l[k] = false) : chainAt P Q l k hk = false := by simp [chainAt, h]

theorem iTwoOk_p (t : DTwo) : PCall av 214 [.agg t.ds] (rB (twoOk t)) := by
  refine pcall_of av_ok Tryz.func214 rfl Tryz.call214 Tryz.ntmps214 (congrArg Array.toList Tryz.results214) fun S => ?_; conv => whnf
  repeat' (first | (refine aw0 ?_) | ((first | refine aw1 ?_ | refine aw2 ?_ | refine aw3 ?_ | refine aw4 ?_ | refine aw5 ?_ | refine aw6 ?_ | refine aw7 ?_ | refine aw8 ?_); conv => whnf) | ((first | refine bT ?_ | refine bF ?_); conv => whnf) | (refine ACall.pure (iDiskOk_p t.a) rfl ?_; conv => whnf) | (refine AFCall.mk ⟨_, _, iDiskOk_p t.a, .inl rfl, ?_⟩; conv => whnf) | (refine ACall.pure (iDiskOk_p t.b) rfl ?_; conv => whnf) | (refine AFCall.mk ⟨_, _, iDiskOk_p t.b, .inl rfl, ?_⟩; conv => whnf) | (exact rr) | (refine And.intro rfl ?_; conv => whnf) | (refine AB.mk (fun h => ?_) (fun h => ?_) <;> (conv => whnf)))
  all_goals
    refine rB_of ?_
    simp_all [twoOk]
  all_goals first | omega | (rw [Bool.eq_iff_iff]; simp only [beq_iff_eq, decide_eq_true_eq]; omega)
theorem sTwoOk_p (t : DTwo) : PCall av 251 [.agg t.ds] (rB (twoOk t)) := by
  refine pcall_of av_ok Tryz.func251 rfl Tryz.call251 Tryz.ntmps251 (congrArg Array.toList Tryz.results251) fun S => ?_; conv => whnf
  repeat' (first | (refine aw0 ?_) | ((first | refine aw1 ?_ | refine aw2 ?_ | refine aw3 ?_ | refine aw4 ?_ | refine aw5 ?_ | refine aw6 ?_ | refine aw7 ?_ | refine aw8 ?_); conv => whnf) | ((first | refine bT ?_ | refine bF ?_); conv => whnf) | (refine ACall.pure (sDiskOk_p t.a) rfl ?_; conv => whnf) | (refine AFCall.mk ⟨_, _, sDiskOk_p t.a, .inl rfl, ?_⟩; conv => whnf) | (refine ACall.pure (sDiskOk_p t.b) rfl ?_; conv => whnf) | (refine AFCall.mk ⟨_, _, sDiskOk_p t.b, .inl rfl, ?_⟩; conv => whnf) | (exact rr) | (refine And.intro rfl ?_; conv => whnf) | (refine AB.mk (fun h => ?_) (fun h => ?_) <;> (conv => whnf)))
  all_goals
    refine rB_of ?_
    simp_all [twoOk]
  all_goals first | omega | (rw [Bool.eq_iff_iff]; simp only [beq_iff_eq, decide_eq_true_eq]; omega)
theorem iKeptOk_p (t : DTwo) : PCall av 273 [.agg t.ds] (rB (keptOk t)) := by
  refine pcall_of av_ok Tryz.func273 rfl Tryz.call273 Tryz.ntmps273 (congrArg Array.toList Tryz.results273) fun S => ?_; conv => whnf
  repeat' (first | (refine aw0 ?_) | ((first | refine aw1 ?_ | refine aw2 ?_ | refine aw3 ?_ | refine aw4 ?_ | refine aw5 ?_ | refine aw6 ?_ | refine aw7 ?_ | refine aw8 ?_); conv => whnf) | ((first | refine bT ?_ | refine bF ?_); conv => whnf) | (refine ACall.pure (iTwoOk_p t) rfl ?_; conv => whnf) | (refine AFCall.mk ⟨_, _, iTwoOk_p t, .inl rfl, ?_⟩; conv => whnf) | (exact rr) | (refine And.intro rfl ?_; conv => whnf) | (refine AB.mk (fun h => ?_) (fun h => ?_) <;> (conv => whnf)))
  all_goals
    refine rB_of ?_
    simp_all [keptOk]
  all_goals first | omega | (rw [Bool.eq_iff_iff]; simp only [beq_iff_eq, decide_eq_true_eq]; omega)
theorem sKeptOk_p (t : DTwo) : PCall av 244 [.agg t.ds] (rB (keptOk t)) := by
  refine pcall_of av_ok Tryz.func244 rfl Tryz.call244 Tryz.ntmps244 (congrArg Array.toList Tryz.results244) fun S => ?_; conv => whnf
  repeat' (first | (refine aw0 ?_) | ((first | refine aw1 ?_ | refine aw2 ?_ | refine aw3 ?_ | refine aw4 ?_ | refine aw5 ?_ | refine aw6 ?_ | refine aw7 ?_ | refine aw8 ?_); conv => whnf) | ((first | refine bT ?_ | refine bF ?_); conv => whnf) | (refine ACall.pure (sTwoOk_p t) rfl ?_; conv => whnf) | (refine AFCall.mk ⟨_, _, sTwoOk_p t, .inl rfl, ?_⟩; conv => whnf) | (exact rr) | (refine And.intro rfl ?_; conv => whnf) | (refine AB.mk (fun h => ?_) (fun h => ?_) <;> (conv => whnf)))
  all_goals
    refine rB_of ?_
    simp_all [keptOk]
  all_goals first | omega | (rw [Bool.eq_iff_iff]; simp only [beq_iff_eq, decide_eq_true_eq]; omega)
theorem iShelfOk_p (d : DDisk) : PCall av 284 [.agg d.ds] (rB (shelfOk d)) := by
  refine pcall_of av_ok Tryz.func284 rfl Tryz.call284 Tryz.ntmps284 (congrArg Array.toList Tryz.results284) fun S => ?_; conv => whnf
  repeat' (first | (refine aw0 ?_) | ((first | refine aw1 ?_ | refine aw2 ?_ | refine aw3 ?_ | refine aw4 ?_ | refine aw5 ?_ | refine aw6 ?_ | refine aw7 ?_ | refine aw8 ?_); conv => whnf) | ((first | refine bT ?_ | refine bF ?_); conv => whnf) | (refine ACall.pure (iDiskOk_p d) rfl ?_; conv => whnf) | (refine AFCall.mk ⟨_, _, iDiskOk_p d, .inl rfl, ?_⟩; conv => whnf) | (exact rr) | (refine And.intro rfl ?_; conv => whnf) | (refine AB.mk (fun h => ?_) (fun h => ?_) <;> (conv => whnf)))
  all_goals
    refine rB_of ?_
    simp_all [shelfOk]
  all_goals first | omega | (rw [Bool.eq_iff_iff]; simp only [beq_iff_eq, decide_eq_true_eq]; omega)
theorem sShelfOk_p (d : DDisk) : PCall av 253 [.agg d.ds] (rB (shelfOk d)) := by
  refine pcall_of av_ok Tryz.func253 rfl Tryz.call253 Tryz.ntmps253 (congrArg Array.toList Tryz.results253) fun S => ?_; conv => whnf
  repeat' (first | (refine aw0 ?_) | ((first | refine aw1 ?_ | refine aw2 ?_ | refine aw3 ?_ | refine aw4 ?_ | refine aw5 ?_ | refine aw6 ?_ | refine aw7 ?_ | refine aw8 ?_); conv => whnf) | ((first | refine bT ?_ | refine bF ?_); conv => whnf) | (refine ACall.pure (sDiskOk_p d) rfl ?_; conv => whnf) | (refine AFCall.mk ⟨_, _, sDiskOk_p d, .inl rfl, ?_⟩; conv => whnf) | (exact rr) | (refine And.intro rfl ?_; conv => whnf) | (refine AB.mk (fun h => ?_) (fun h => ?_) <;> (conv => whnf)))
  all_goals
    refine rB_of ?_
    simp_all [shelfOk]
  all_goals first | omega | (rw [Bool.eq_iff_iff]; simp only [beq_iff_eq, decide_eq_true_eq]; omega)
theorem iapart_p (a b : Int) : PCall av 209 [pI a, pI b] (rB (apartB a b)) := by
  refine pcall_of av_ok Tryz.func209 rfl Tryz.call209 Tryz.ntmps209 (congrArg Array.toList Tryz.results209) fun S => ?_; conv => whnf
  repeat' (first | (refine aw0 ?_) | ((first | refine aw1 ?_ | refine aw2 ?_ | refine aw3 ?_ | refine aw4 ?_ | refine aw5 ?_ | refine aw6 ?_ | refine aw7 ?_ | refine aw8 ?_); conv => whnf) | ((first | refine bT ?_ | refine bF ?_); conv => whnf) | (refine ACall.pure (inodeOk_p _) rfl ?_; conv => whnf) | (refine AFCall.mk ⟨_, _, inodeOk_p _, .inl rfl, ?_⟩; conv => whnf) | (exact rr) | (refine And.intro rfl ?_; conv => whnf) | (refine AB.mk (fun h => ?_) (fun h => ?_) <;> (conv => whnf)))
  all_goals
    refine rB_of ?_
    simp_all [apartB]
theorem iMsgOk_p (m : DMsg) : PCall av 208 [.agg m.ds] (rB (msgOk m)) := by
  refine pcall_of av_ok Tryz.func208 rfl Tryz.call208 Tryz.ntmps208 (congrArg Array.toList Tryz.results208) fun S => ?_; conv => whnf
  repeat' (first | (refine aw0 ?_) | ((first | refine aw1 ?_ | refine aw2 ?_ | refine aw3 ?_ | refine aw4 ?_ | refine aw5 ?_ | refine aw6 ?_ | refine aw7 ?_ | refine aw8 ?_); conv => whnf) | ((first | refine bT ?_ | refine bF ?_); conv => whnf) | (refine ACall.pure (iapart_p _ _) rfl ?_; conv => whnf) | (refine AFCall.mk ⟨_, _, iapart_p _ _, .inl rfl, ?_⟩; conv => whnf) | (refine ACall.pure (iRowOk_p _) rfl ?_; conv => whnf) | (refine AFCall.mk ⟨_, _, iRowOk_p _, .inl rfl, ?_⟩; conv => whnf) | (exact rr) | (refine And.intro rfl ?_; conv => whnf) | (refine AB.mk (fun h => ?_) (fun h => ?_) <;> (conv => whnf)))
  all_goals
    refine rB_of ?_
    simp_all [msgOk]
theorem sMsgOk_p (m : DMsg) : PCall av 191 [.agg m.ds] (rB (msgOk m)) := by
  refine pcall_of av_ok Tryz.func191 rfl Tryz.call191 Tryz.ntmps191 (congrArg Array.toList Tryz.results191) fun S => ?_; conv => whnf
  repeat' (first | (refine aw0 ?_) | ((first | refine aw1 ?_ | refine aw2 ?_ | refine aw3 ?_ | refine aw4 ?_ | refine aw5 ?_ | refine aw6 ?_ | refine aw7 ?_ | refine aw8 ?_); conv => whnf) | ((first | refine bT ?_ | refine bF ?_); conv => whnf) | (refine ACall.pure (sl5Node_p _) rfl ?_; conv => whnf) | (refine AFCall.mk ⟨_, _, sl5Node_p _, .inl rfl, ?_⟩; conv => whnf) | (refine ACall.pure (sRowOk_p _) rfl ?_; conv => whnf) | (refine AFCall.mk ⟨_, _, sRowOk_p _, .inl rfl, ?_⟩; conv => whnf) | (exact rr) | (refine And.intro rfl ?_; conv => whnf) | (refine AB.mk (fun h => ?_) (fun h => ?_) <;> (conv => whnf)))
  all_goals
    refine rB_of ?_
    simp_all [msgOk, apartB]
theorem ilinkLess_p (x y : DLink) : PCall av 210 [.agg x.ds, .agg y.ds] (rB (linkLess x y)) := by
  refine pcall_of av_ok Tryz.func210 rfl Tryz.call210 Tryz.ntmps210 (congrArg Array.toList Tryz.results210) fun S => ?_; conv => whnf
  repeat' (first | (refine aw0 ?_) | ((first | refine aw1 ?_ | refine aw2 ?_ | refine aw3 ?_ | refine aw4 ?_ | refine aw5 ?_ | refine aw6 ?_ | refine aw7 ?_ | refine aw8 ?_); conv => whnf) | ((first | refine bT ?_ | refine bF ?_); conv => whnf) | (exact rr) | (refine And.intro rfl ?_; conv => whnf) | (refine AB.mk (fun h => ?_) (fun h => ?_) <;> (conv => whnf)))
  all_goals
    refine rB_of ?_
    simp_all [linkLess]
  all_goals first | omega | (rw [Bool.eq_iff_iff]; simp only [beq_iff_eq, decide_eq_true_eq]; omega)
theorem sl5LinkLess_p (x y : DLink) : PCall av 193 [.agg x.ds, .agg y.ds] (rB (linkLess x y)) := by
  refine pcall_of av_ok Tryz.func193 rfl Tryz.call193 Tryz.ntmps193 (congrArg Array.toList Tryz.results193) fun S => ?_; conv => whnf
  repeat' (first | (refine aw0 ?_) | ((first | refine aw1 ?_ | refine aw2 ?_ | refine aw3 ?_ | refine aw4 ?_ | refine aw5 ?_ | refine aw6 ?_ | refine aw7 ?_ | refine aw8 ?_); conv => whnf) | ((first | refine bT ?_ | refine bF ?_); conv => whnf) | (exact rr) | (refine And.intro rfl ?_; conv => whnf) | (refine AB.mk (fun h => ?_) (fun h => ?_) <;> (conv => whnf)))
  all_goals
    refine rB_of ?_
    simp_all [linkLess]
  all_goals first | omega | (rw [Bool.eq_iff_iff]; simp only [beq_iff_eq, decide_eq_true_eq]; omega)
theorem netOk_len {n : DNet} (h : ¬ (n.flight.length ≤ 60 ∧ n.cuts.length ≤ 15)) : netOk n = false := by
  have : (decide (n.flight.length ≤ 60) && decide (n.cuts.length ≤ 15)) = false := by
    simp only [Bool.and_eq_false_iff, decide_eq_false_iff_not]
    omega
  simp only [netOk, this, Bool.false_and]
theorem netOk_msg {n : DNet} {k : Nat} (hk : k < n.flight.length) (h : msgOk n.flight[k] = false) : netOk n = false := by
  have := all_no (p := msgOk) hk h
  simp only [netOk, this, Bool.and_false, Bool.false_and]
theorem netOk_cut {n : DNet} {k : Nat} (hk : k < n.cuts.length) (h : chainAt linkOk linkLess n.cuts k hk = false) : netOk n = false := by
  have := chain_no hk h
  simp only [netOk, Bool.and_assoc] at *
  simp only [this, Bool.and_false]
set_option maxHeartbeats 2000000 in
theorem iNetOk_p (n : DNet) : PCall av 131 [.agg n.ds] (rB (netOk n)) := by
  refine pcall_of av_ok Tryz.func131 rfl Tryz.call131 Tryz.ntmps131 (congrArg Array.toList Tryz.results131) fun S => ?_; conv => whnf
  repeat' (first | (refine aw0 ?_) | ((first | refine aw1 ?_ | refine aw2 ?_ | refine aw3 ?_ | refine aw4 ?_ | refine aw5 ?_ | refine aw6 ?_ | refine aw7 ?_ | refine aw8 ?_); conv => whnf) | ((first | refine bT ?_ | refine bF ?_); conv => whnf) | (exact rr) | (refine And.intro rfl ?_; conv => whnf) | (refine AB.mk (fun h => ?_) (fun h => ?_) <;> (conv => whnf)))
  · rw [netOk_len ari]
  · rw [netOk_len ari]
  · have h1 : n.flight.length ≤ 60 := ari
    have h2 : n.cuts.length ≤ 15 := ari
    clear h
    refine AWP.loopS (fun k : Nat => k ≤ n.flight.length ∧ ∀ (j : Nat) (hj : j < k) (hl : j < n.flight.length), msgOk n.flight[j] = true) [2, 4, 20, 21, 22, 23, 24, 25, 26, 27] (fun k => [(20, vI .i64 (k : Int))]) (fun _ => [(1, .cells 104 (n.ds.map .d))]) (fun k => n.flight.length - k) 0 ⟨by omega, by omega⟩ ?_ (SubO.cons rfl SubO.nil) (fun k hR => ?_) <;> (conv => whnf)
    · exact whd
    · obtain ⟨hk, hall⟩ := hR
      repeat' (first | (refine aw0 ?_) | ((first | refine aw1 ?_ | refine aw2 ?_ | refine aw3 ?_ | refine aw4 ?_ | refine aw5 ?_ | refine aw6 ?_ | refine aw7 ?_ | refine aw8 ?_); conv => whnf) | ((first | refine bT ?_ | refine bF ?_); conv => whnf) | (refine AIx.mapF ari (fun hlt => ?_); conv => whnf) | (refine AW.i64 ari ari ?_; conv => whnf) | (refine ACall.pure (iMsgOk_p _) rfl ?_; conv => whnf) | (refine AFCall.mk ⟨_, _, iMsgOk_p _, .inl rfl, ?_⟩; conv => whnf) | (exact rr) | (refine And.intro rfl ?_; conv => whnf) | (refine AB.mk (fun h => ?_) (fun h => ?_) <;> (conv => whnf)))
      · rw [netOk_msg hlt (by simpa using h)]
      · refine ANext.mk ⟨k + 1, ⟨hlt, step_all (p := msgOk) hall hlt (by simpa using h)⟩, by omega, ?_, SubO.cons rfl SubO.nil⟩
        exact hds
      · have hrows := end_all (p := msgOk) hall ari
        clear hall hk h
        refine AWP.loopS (fun k : Nat => k ≤ n.cuts.length ∧ ∀ (j : Nat) (hj : j < k) (hl : j < n.cuts.length), chainAt linkOk linkLess n.cuts j hl = true) [2, 5, 6, 31, 32, 33, 34, 35, 36, 37, 38, 39, 40, 41, 42, 43, 44, 45, 46, 47, 48, 49, 50, 51, 52, 53, 54, 55, 56, 57, 58, 59, 60, 61, 62, 63, 64] (fun k => [(31, vI .i64 (k : Int))]) (fun _ => [(1, .cells 104 (n.ds.map .d))]) (fun k => n.cuts.length - k) 0 ⟨by omega, by omega⟩ ?_ (SubO.cons rfl SubO.nil) (fun k hR => ?_) <;> (conv => whnf)
        · exact whd
        · obtain ⟨hk, hall⟩ := hR
          repeat' (first | (refine aw0 ?_) | ((first | refine aw1 ?_ | refine aw2 ?_ | refine aw3 ?_ | refine aw4 ?_ | refine aw5 ?_ | refine aw6 ?_ | refine aw7 ?_ | refine aw8 ?_); conv => whnf) | ((first | refine bT ?_ | refine bF ?_); conv => whnf) | (refine AWP.drawK av_ok 12 24 dk_WA2_impl_NetOk_12 fk_WA2_impl_NetOk_12 (by kernel_rfl) (by kernel_rfl) (by kernel_rfl) rfl ?_; conv => whnf) | (refine AIx.mapF ari (fun hlt => ?_); conv => whnf) | (refine AIx.mapP ari ari (fun hpv => ?_); conv => whnf) | (refine AW.i64 (n := _ - _) ari ari ?_; conv => whnf) | (refine AW.i64 ari ari ?_; conv => whnf) | (refine ACall.pure (iapart_p _ _) rfl ?_; conv => whnf) | (refine AFCall.mk ⟨_, _, iapart_p _ _, .inl rfl, ?_⟩; conv => whnf) | (refine ACall.pure (ilinkLess_p _ _) rfl ?_; conv => whnf) | (refine AFCall.mk ⟨_, _, ilinkLess_p _ _, .inl rfl, ?_⟩; conv => whnf) | (exact rr) | (refine And.intro rfl ?_; conv => whnf) | (refine AB.mk (fun h => ?_) (fun h => ?_) <;> (conv => whnf)))
          all_goals first
            | (rw [netOk_cut hlt (by first | (refine chainAt_P _ ?_; simp_all [linkOk]; done) | (refine chainAt_P _ ?_; simp_all [linkOk]; omega) | (rw [chainAt_pos _ ari]; simp_all [linkOk]; done) | (rw [chainAt_zero _ ari]; simp_all [linkOk]; done))]; done)
            | (refine ANext.mk ⟨k + 1, ⟨hlt, step_chain hall hlt (by first | (refine chainAt_P _ ?_; simp_all [linkOk]; done) | (refine chainAt_P _ ?_; simp_all [linkOk]; omega) | (rw [chainAt_pos _ ari]; simp_all [linkOk]; done) | (rw [chainAt_zero _ ari]; simp_all [linkOk]; done))⟩, by omega, ?_, SubO.cons rfl SubO.nil⟩
               exact hds)
            | (refine rB_of ?_
               have he := end_chain hall ari
               simp only [netOk, hrows, h1, h2, decide_true, Bool.and_self, Bool.true_and, he])
set_option maxHeartbeats 2000000 in
theorem sNetOk_p (n : DNet) : PCall av 116 [.agg n.ds] (rB (netOk n)) := by
  refine pcall_of av_ok Tryz.func116 rfl Tryz.call116 Tryz.ntmps116 (congrArg Array.toList Tryz.results116) fun S => ?_; conv => whnf
  repeat' (first | (refine aw0 ?_) | ((first | refine aw1 ?_ | refine aw2 ?_ | refine aw3 ?_ | refine aw4 ?_ | refine aw5 ?_ | refine aw6 ?_ | refine aw7 ?_ | refine aw8 ?_); conv => whnf) | ((first | refine bT ?_ | refine bF ?_); conv => whnf) | (exact rr) | (refine And.intro rfl ?_; conv => whnf) | (refine AB.mk (fun h => ?_) (fun h => ?_) <;> (conv => whnf)))
  · rw [netOk_len ari]
  · rw [netOk_len ari]
  · have h1 : n.flight.length ≤ 60 := ari
    have h2 : n.cuts.length ≤ 15 := ari
    clear h
    refine AWP.loopS (fun k : Nat => k ≤ n.flight.length ∧ ∀ (j : Nat) (hj : j < k) (hl : j < n.flight.length), msgOk n.flight[j] = true) [2, 3, 16, 17, 18, 19, 20, 21, 22, 23, 24, 25, 26, 27, 28, 29] (fun k => [(3, vI .i64 (k : Int))]) (fun _ => [(1, .cells 104 (n.ds.map .d))]) (fun k => n.flight.length - k) 0 ⟨by omega, by omega⟩ ?_ (SubO.cons rfl SubO.nil) (fun k hR => ?_) <;> (conv => whnf)
    · exact whd
    · obtain ⟨hk, hall⟩ := hR
      repeat' (first | (refine aw0 ?_) | ((first | refine aw1 ?_ | refine aw2 ?_ | refine aw3 ?_ | refine aw4 ?_ | refine aw5 ?_ | refine aw6 ?_ | refine aw7 ?_ | refine aw8 ?_); conv => whnf) | ((first | refine bT ?_ | refine bF ?_); conv => whnf) | (refine AIx.mapF ari (fun hlt => ?_); conv => whnf) | (refine AW.i64 ari ari ?_; conv => whnf) | (refine ACall.pure (sMsgOk_p _) rfl ?_; conv => whnf) | (refine AFCall.mk ⟨_, _, sMsgOk_p _, .inl rfl, ?_⟩; conv => whnf) | (exact rr) | (refine And.intro rfl ?_; conv => whnf) | (refine AB.mk (fun h => ?_) (fun h => ?_) <;> (conv => whnf)))
      · rw [netOk_msg hlt (by simpa using h)]
      · refine ANext.mk ⟨k + 1, ⟨hlt, step_all (p := msgOk) hall hlt (by simpa using h)⟩, by omega, ?_, SubO.cons rfl SubO.nil⟩
        exact hds
      · have hrows := end_all (p := msgOk) hall ari
        clear hall hk h
        refine AWP.loopS (fun k : Nat => k ≤ n.cuts.length ∧ ∀ (j : Nat) (hj : j < k) (hl : j < n.cuts.length), chainAt linkOk linkLess n.cuts j hl = true) [2, 4, 5, 30, 31, 32, 33, 34, 35, 36, 37, 38, 39, 40, 41, 42, 43, 44, 45, 46, 47, 48, 49, 50, 51, 52, 53, 54, 55, 56, 57, 58, 59, 60, 61, 62, 63, 64, 65, 66, 67, 68, 69, 70, 71, 72, 73] (fun k => [(4, vI .i64 (k : Int))]) (fun _ => [(1, .cells 104 (n.ds.map .d))]) (fun k => n.cuts.length - k) 0 ⟨by omega, by omega⟩ ?_ (SubO.cons rfl SubO.nil) (fun k hR => ?_) <;> (conv => whnf)
        · exact whd
        · obtain ⟨hk, hall⟩ := hR
          repeat' (first | (refine aw0 ?_) | ((first | refine aw1 ?_ | refine aw2 ?_ | refine aw3 ?_ | refine aw4 ?_ | refine aw5 ?_ | refine aw6 ?_ | refine aw7 ?_ | refine aw8 ?_); conv => whnf) | ((first | refine bT ?_ | refine bF ?_); conv => whnf) | (refine AWP.drawK av_ok 12 28 dk_WA2_spec_NetOk_12 fk_WA2_spec_NetOk_12 (by kernel_rfl) (by kernel_rfl) (by kernel_rfl) rfl ?_; conv => whnf) | (refine AIx.mapF ari (fun hlt => ?_); conv => whnf) | (refine AIx.mapP ari ari (fun hpv => ?_); conv => whnf) | (refine AW.i64 (n := _ - _) ari ari ?_; conv => whnf) | (refine AW.i64 ari ari ?_; conv => whnf) | (refine ACall.pure (sl5Node_p _) rfl ?_; conv => whnf) | (refine AFCall.mk ⟨_, _, sl5Node_p _, .inl rfl, ?_⟩; conv => whnf) | (refine ACall.pure (sl5LinkLess_p _ _) rfl ?_; conv => whnf) | (refine AFCall.mk ⟨_, _, sl5LinkLess_p _ _, .inl rfl, ?_⟩; conv => whnf) | (exact rr) | (refine And.intro rfl ?_; conv => whnf) | (refine AB.mk (fun h => ?_) (fun h => ?_) <;> (conv => whnf)))
          all_goals first
            | (rw [netOk_cut hlt (by first | (refine chainAt_P _ ?_; simp_all [linkOk, apartB]; done) | (refine chainAt_P _ ?_; simp_all [linkOk, apartB]; intros; omega) | (rw [chainAt_pos _ ari]; simp_all [linkOk, apartB]; done) | (rw [chainAt_zero _ ari]; simp_all [linkOk, apartB]; done) | (rw [chainAt_pos _ ari]; simp_all [linkOk, apartB]; omega) | (rw [chainAt_zero _ ari]; simp_all [linkOk, apartB]; omega))]; done)
            | (refine ANext.mk ⟨k + 1, ⟨hlt, step_chain hall hlt (by first | (refine chainAt_P _ ?_; simp_all [linkOk, apartB]; done) | (refine chainAt_P _ ?_; simp_all [linkOk, apartB]; intros; omega) | (rw [chainAt_pos _ ari]; simp_all [linkOk, apartB]; done) | (rw [chainAt_zero _ ari]; simp_all [linkOk, apartB]; done) | (rw [chainAt_pos _ ari]; simp_all [linkOk, apartB]; omega) | (rw [chainAt_zero _ ari]; simp_all [linkOk, apartB]; omega))⟩, by omega, ?_, SubO.cons rfl SubO.nil⟩
               exact hds)
            | (refine rB_of ?_
               have he := end_chain hall ari
               simp only [netOk, hrows, h1, h2, decide_true, Bool.and_self, Bool.true_and, he])
theorem clocksOk_len {l : List Int} (h : l.length ≠ 6) : clocksOk l = false := by simp [clocksOk, h]
theorem clocksOk_no {l : List Int} {k : Nat} (hk : k < l.length) (h : tOk l[k] = false) : clocksOk l = false := by
  have := all_no (p := tOk) hk h
  simp only [clocksOk, this, Bool.and_false]
theorem iClocksOk_p (l : List Int) : PCall av 130 [.one (dIs l)] (rB (clocksOk l)) := by
  refine pcall_of av_ok Tryz.func130 rfl Tryz.call130 Tryz.ntmps130 (congrArg Array.toList Tryz.results130) fun S => ?_; conv => whnf
  repeat' (first | (refine aw0 ?_) | ((first | refine aw1 ?_ | refine aw2 ?_ | refine aw3 ?_ | refine aw4 ?_ | refine aw5 ?_ | refine aw6 ?_ | refine aw7 ?_ | refine aw8 ?_); conv => whnf) | ((first | refine bT ?_ | refine bF ?_); conv => whnf) | (exact rr) | (refine And.intro rfl ?_; conv => whnf) | (refine AB.mk (fun h => ?_) (fun h => ?_) <;> (conv => whnf)))
  · rw [clocksOk_len (by simp only [bne_iff_ne, ne_eq, decide_eq_true_eq, decide_eq_false_iff_not, beq_iff_eq, beq_eq_false_iff_ne, List.length_map, Bool.not_eq_true', Bool.not_eq_false', bne_eq_false_iff_eq] at *; omega)]
  · have h1 : l.length = 6 := (by simp only [bne_iff_ne, ne_eq, decide_eq_true_eq, decide_eq_false_iff_not, beq_iff_eq, beq_eq_false_iff_ne, List.length_map, Bool.not_eq_true', Bool.not_eq_false', bne_eq_false_iff_eq] at *; omega)
    clear h
    refine AWP.loopS (fun k : Nat => k ≤ l.length ∧ ∀ (j : Nat) (hj : j < k) (hl : j < l.length), tOk l[j] = true) [2, 4, 10, 11, 12, 13, 14, 15, 16, 17] (fun k => [(10, vI .i64 (k : Int))]) (fun _ => []) (fun k => l.length - k) 0 ⟨by omega, by omega⟩ ?_ SubO.nil (fun k hR => ?_) <;> (conv => whnf)
    · exact whd
    · obtain ⟨hk, hall⟩ := hR
      repeat' (first | (refine aw0 ?_) | ((first | refine aw1 ?_ | refine aw2 ?_ | refine aw3 ?_ | refine aw4 ?_ | refine aw5 ?_ | refine aw6 ?_ | refine aw7 ?_ | refine aw8 ?_); conv => whnf) | ((first | refine bT ?_ | refine bF ?_); conv => whnf) | (refine AIx.mapF ari (fun hlt => ?_); conv => whnf) | (refine AW.i64 ari ari ?_; conv => whnf) | (refine ACall.pure (iTimeOk_p _) rfl ?_; conv => whnf) | (refine AFCall.mk ⟨_, _, iTimeOk_p _, .inl rfl, ?_⟩; conv => whnf) | (exact rr) | (refine And.intro rfl ?_; conv => whnf) | (refine AB.mk (fun h => ?_) (fun h => ?_) <;> (conv => whnf)))
      · rw [clocksOk_no hlt (by simpa [tOk] using h)]
      · refine ANext.mk ⟨k + 1, ⟨hlt, step_all (p := tOk) hall hlt (by simpa [tOk] using h)⟩, by omega, ?_, SubO.nil⟩
        exact hds
      · refine rB_of ?_
        simp only [clocksOk, end_all (p := tOk) hall ari, h1, decide_true, Bool.and_self]
theorem sl22Clocks_p (l : List Int) (h6 : l.length = 6) : PCall av 111 [.one (dIs l)] (rB (clocksOk l)) := by
  refine pcall_of av_ok Tryz.func111 rfl Tryz.call111 Tryz.ntmps111 (congrArg Array.toList Tryz.results111) fun S => ?_; conv => whnf
  repeat' (first | (refine aw0 ?_) | ((first | refine aw1 ?_ | refine aw2 ?_ | refine aw3 ?_ | refine aw4 ?_ | refine aw5 ?_ | refine aw6 ?_ | refine aw7 ?_ | refine aw8 ?_); conv => whnf) | ((first | refine bT ?_ | refine bF ?_); conv => whnf) | (exact rr) | (refine And.intro rfl ?_; conv => whnf) | (refine AB.mk (fun h => ?_) (fun h => ?_) <;> (conv => whnf)))
  refine AWP.loopS (fun k : Nat => k ≤ l.length ∧ ∀ (j : Nat) (hj : j < k) (hl : j < l.length), tOk l[j] = true) [2, 3, 4, 5, 6, 7, 8, 9, 10, 11, 12, 13, 14, 15] (fun k => [(3, vI .i64 (k : Int))]) (fun _ => []) (fun k => l.length - k) 0 ⟨by omega, by omega⟩ ?_ SubO.nil (fun k hR => ?_) <;> (conv => whnf)
  · exact whd
  · obtain ⟨hk, hall⟩ := hR
    repeat' (first | (refine aw0 ?_) | ((first | refine aw1 ?_ | refine aw2 ?_ | refine aw3 ?_ | refine aw4 ?_ | refine aw5 ?_ | refine aw6 ?_ | refine aw7 ?_ | refine aw8 ?_); conv => whnf) | ((first | refine bT ?_ | refine bF ?_); conv => whnf) | (refine AIx.mapF ari (fun hlt => ?_); conv => whnf) | (refine AW.i64 ari ari ?_; conv => whnf) | (refine ACall.pure (sTimeOk_p _) rfl ?_; conv => whnf) | (refine AFCall.mk ⟨_, _, sTimeOk_p _, .inl rfl, ?_⟩; conv => whnf) | (exact rr) | (refine And.intro rfl ?_; conv => whnf) | (refine AB.mk (fun h => ?_) (fun h => ?_) <;> (conv => whnf)))
    all_goals first
      | (rw [clocksOk_no hlt (by simpa [tOk] using h)]; done)
      | (refine ANext.mk ⟨k + 1, ⟨hlt, step_all (p := tOk) hall hlt (by simpa [tOk] using h)⟩, by omega, ?_, SubO.nil⟩
         exact hds)
      | (refine rB_of ?_
         simp only [clocksOk, end_all (p := tOk) hall ari, Bool.and_true]
         simp only [List.length_map]
         first | omega | (rw [Bool.eq_iff_iff]; simp only [beq_iff_eq, decide_eq_true_eq]; omega))
end Go.Proofs.YtmgcnmdbhahhlaaGreat
