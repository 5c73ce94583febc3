/- The world's types as arguments: what the form can read reads by my Rep (gen_world.py). -/
import Derived.Test.YthmckpghadfeeaaGreatTrodT
import Derived.Test.YthmckpghadfeeaaGreatWData
set_option linter.unusedVariables false
set_option maxRecDepth 100000
namespace Go.Proofs.YthmckpghadfeeaaGreat
open Go.ChangeShapes Go.WideShapes Go.RowKit
theorem cellsLWrite : Tryz.prog.cellsOf 245 = 2 := by kernel_rfl
theorem treads_LWrite : TReads Tryz.prog 245 Rep.DWrite := by
  intro H enc w base spare held fuel cs y h
  obtain ⟨ys, n, _, _, hl, hyl, hf⟩ := DataW.trod_struct Tryz.underlying245 h
  rw [cellsLWrite] at hl
  have hk :=
    chain_cons (o := 0) (s := 1) (treads_int Tryz.underlying2) (hf 0 _ rfl) (some_at hyl (by decide)) rfl (by kernel_rfl)
    (chain_one (o := 1) (s := 1) (treads_sl Tryz.underlying62 (by kernel_rfl) (treads_int Tryz.underlying2)) (hf 1 _ rfl) (some_at hyl (by decide)) rfl (by kernel_rfl) hl)
  obtain ⟨⟨a0, a1⟩, F, hk⟩ := hk
  exact ⟨⟨a0, a1⟩, F, hk⟩
theorem cellsLDisk : Tryz.prog.cellsOf 25 = 2 := by kernel_rfl
theorem treads_LDisk : TReads Tryz.prog 25 Rep.DDisk := by
  intro H enc w base spare held fuel cs y h
  obtain ⟨ys, n, _, _, hl, hyl, hf⟩ := DataW.trod_struct Tryz.underlying25 h
  rw [cellsLDisk] at hl
  have hk :=
    chain_cons (o := 0) (s := 1) (treads_sl Tryz.underlying22 (by kernel_rfl) (treads_sl Tryz.underlying62 (by kernel_rfl) (treads_int Tryz.underlying2))) (hf 0 _ rfl) (some_at hyl (by decide)) rfl (by kernel_rfl)
    (chain_one (o := 1) (s := 1) (treads_sl Tryz.underlying23 (by kernel_rfl) treads_LWrite) (hf 1 _ rfl) (some_at hyl (by decide)) rfl (by kernel_rfl) hl)
  obtain ⟨⟨a0, a1⟩, F, hk⟩ := hk
  exact ⟨⟨a0, a1⟩, F, hk⟩
theorem cellsLTwo : Tryz.prog.cellsOf 27 = 4 := by kernel_rfl
theorem treads_LTwo : TReads Tryz.prog 27 Rep.DTwo := by
  intro H enc w base spare held fuel cs y h
  obtain ⟨ys, n, _, _, hl, hyl, hf⟩ := DataW.trod_struct Tryz.underlying27 h
  rw [cellsLTwo] at hl
  have hk :=
    chain_cons (o := 0) (s := 2) treads_LDisk (hf 0 _ rfl) (some_at hyl (by decide)) rfl (by kernel_rfl)
    (chain_one (o := 2) (s := 2) treads_LDisk (hf 1 _ rfl) (some_at hyl (by decide)) rfl (by kernel_rfl) hl)
  obtain ⟨⟨a0, a1⟩, F, hk⟩ := hk
  exact ⟨⟨a0, a1⟩, F, hk⟩
theorem cellsLMark : Tryz.prog.cellsOf 208 = 3 := by kernel_rfl
theorem treads_LMark : TReads Tryz.prog 208 Rep.DMark := by
  intro H enc w base spare held fuel cs y h
  obtain ⟨ys, n, _, _, hl, hyl, hf⟩ := DataW.trod_struct Tryz.underlying208 h
  rw [cellsLMark] at hl
  have hk :=
    chain_cons (o := 0) (s := 1) (treads_int Tryz.underlying2) (hf 0 _ rfl) (some_at hyl (by decide)) rfl (by kernel_rfl)
    (chain_cons (o := 1) (s := 1) (treads_int Tryz.underlying2) (hf 1 _ rfl) (some_at hyl (by decide)) rfl (by kernel_rfl)
    (chain_one (o := 2) (s := 1) (treads_int Tryz.underlying2) (hf 2 _ rfl) (some_at hyl (by decide)) rfl (by kernel_rfl) hl))
  obtain ⟨⟨a0, a1, a2⟩, F, hk⟩ := hk
  exact ⟨⟨a0, a1, a2⟩, F, hk⟩
theorem cellsLHead : Tryz.prog.cellsOf 30 = 4 := by kernel_rfl
theorem treads_LHead : TReads Tryz.prog 30 Rep.DHead := by
  intro H enc w base spare held fuel cs y h
  obtain ⟨ys, n, _, _, hl, hyl, hf⟩ := DataW.trod_struct Tryz.underlying30 h
  rw [cellsLHead] at hl
  have hk :=
    chain_cons (o := 0) (s := 1) (treads_int Tryz.underlying2) (hf 0 _ rfl) (some_at hyl (by decide)) rfl (by kernel_rfl)
    (chain_cons (o := 1) (s := 1) (treads_int Tryz.underlying2) (hf 1 _ rfl) (some_at hyl (by decide)) rfl (by kernel_rfl)
    (chain_cons (o := 2) (s := 1) (treads_int Tryz.underlying2) (hf 2 _ rfl) (some_at hyl (by decide)) rfl (by kernel_rfl)
    (chain_one (o := 3) (s := 1) (treads_sl Tryz.underlying28 (by kernel_rfl) treads_LMark) (hf 3 _ rfl) (some_at hyl (by decide)) rfl (by kernel_rfl) hl)))
  obtain ⟨⟨a0, a1, a2, a3⟩, F, hk⟩ := hk
  exact ⟨⟨a0, a1, a2, a3⟩, F, hk⟩
theorem cellsLBook : Tryz.prog.cellsOf 33 = 3 := by kernel_rfl
theorem treads_LBook : TReads Tryz.prog 33 Rep.DBook := by
  intro H enc w base spare held fuel cs y h
  obtain ⟨ys, n, _, _, hl, hyl, hf⟩ := DataW.trod_struct Tryz.underlying33 h
  rw [cellsLBook] at hl
  have hk :=
    chain_cons (o := 0) (s := 1) (treads_int Tryz.underlying2) (hf 0 _ rfl) (some_at hyl (by decide)) rfl (by kernel_rfl)
    (chain_cons (o := 1) (s := 1) (treads_int Tryz.underlying2) (hf 1 _ rfl) (some_at hyl (by decide)) rfl (by kernel_rfl)
    (chain_one (o := 2) (s := 1) (treads_sl Tryz.underlying31 (by kernel_rfl) treads_LEntry) (hf 2 _ rfl) (some_at hyl (by decide)) rfl (by kernel_rfl) hl))
  obtain ⟨⟨a0, a1, a2⟩, F, hk⟩ := hk
  exact ⟨⟨a0, a1, a2⟩, F, hk⟩
theorem cellsLAck : Tryz.prog.cellsOf 212 = 4 := by kernel_rfl
theorem treads_LAck : TReads Tryz.prog 212 Rep.DAck := by
  intro H enc w base spare held fuel cs y h
  obtain ⟨ys, n, _, _, hl, hyl, hf⟩ := DataW.trod_struct Tryz.underlying212 h
  rw [cellsLAck] at hl
  have hk :=
    chain_cons (o := 0) (s := 1) (treads_int Tryz.underlying2) (hf 0 _ rfl) (some_at hyl (by decide)) rfl (by kernel_rfl)
    (chain_cons (o := 1) (s := 1) (treads_int Tryz.underlying2) (hf 1 _ rfl) (some_at hyl (by decide)) rfl (by kernel_rfl)
    (chain_cons (o := 2) (s := 1) (treads_int Tryz.underlying2) (hf 2 _ rfl) (some_at hyl (by decide)) rfl (by kernel_rfl)
    (chain_one (o := 3) (s := 1) (treads_int Tryz.underlying2) (hf 3 _ rfl) (some_at hyl (by decide)) rfl (by kernel_rfl) hl)))
  obtain ⟨⟨a0, a1, a2, a3⟩, F, hk⟩ := hk
  exact ⟨⟨a0, a1, a2, a3⟩, F, hk⟩
theorem cellsLLogNode : Tryz.prog.cellsOf 36 = 19 := by kernel_rfl
theorem treads_LLogNode : TReads Tryz.prog 36 Rep.DLogNode := by
  intro H enc w base spare held fuel cs y h
  obtain ⟨ys, n, _, _, hl, hyl, hf⟩ := DataW.trod_struct Tryz.underlying36 h
  rw [cellsLLogNode] at hl
  have hk :=
    chain_cons (o := 0) (s := 4) treads_LTwo (hf 0 _ rfl) (some_at hyl (by decide)) rfl (by kernel_rfl)
    (chain_cons (o := 4) (s := 4) treads_LHead (hf 1 _ rfl) (some_at hyl (by decide)) rfl (by kernel_rfl)
    (chain_cons (o := 8) (s := 4) treads_LHead (hf 2 _ rfl) (some_at hyl (by decide)) rfl (by kernel_rfl)
    (chain_cons (o := 12) (s := 1) (treads_bool Tryz.underlying4) (hf 3 _ rfl) (some_at hyl (by decide)) rfl (by kernel_rfl)
    (chain_cons (o := 13) (s := 3) treads_LBook (hf 4 _ rfl) (some_at hyl (by decide)) rfl (by kernel_rfl)
    (chain_cons (o := 16) (s := 1) (treads_sl Tryz.underlying28 (by kernel_rfl) treads_LMark) (hf 5 _ rfl) (some_at hyl (by decide)) rfl (by kernel_rfl)
    (chain_cons (o := 17) (s := 1) (treads_int Tryz.underlying2) (hf 6 _ rfl) (some_at hyl (by decide)) rfl (by kernel_rfl)
    (chain_one (o := 18) (s := 1) (treads_sl Tryz.underlying34 (by kernel_rfl) treads_LAck) (hf 7 _ rfl) (some_at hyl (by decide)) rfl (by kernel_rfl) hl)))))))
  obtain ⟨⟨a0, a1, a2, a3, a4, a5, a6, a7⟩, F, hk⟩ := hk
  exact ⟨⟨a0, a1, a2, a3, a4, a5, a6, a7⟩, F, hk⟩
theorem cellsLPair : Tryz.prog.cellsOf 268 = 2 := by kernel_rfl
theorem treads_LPair : TReads Tryz.prog 268 Rep.DPair := by
  intro H enc w base spare held fuel cs y h
  obtain ⟨ys, n, _, _, hl, hyl, hf⟩ := DataW.trod_struct Tryz.underlying268 h
  rw [cellsLPair] at hl
  have hk :=
    chain_cons (o := 0) (s := 1) (treads_int Tryz.underlying2) (hf 0 _ rfl) (some_at hyl (by decide)) rfl (by kernel_rfl)
    (chain_one (o := 1) (s := 1) (treads_int Tryz.underlying2) (hf 1 _ rfl) (some_at hyl (by decide)) rfl (by kernel_rfl) hl)
  obtain ⟨⟨a0, a1⟩, F, hk⟩ := hk
  exact ⟨⟨a0, a1⟩, F, hk⟩
theorem cellsLJob : Tryz.prog.cellsOf 272 = 5 := by kernel_rfl
theorem treads_LJob : TReads Tryz.prog 272 Rep.DJob := by
  intro H enc w base spare held fuel cs y h
  obtain ⟨ys, n, _, _, hl, hyl, hf⟩ := DataW.trod_struct Tryz.underlying272 h
  rw [cellsLJob] at hl
  have hk :=
    chain_cons (o := 0) (s := 1) (treads_int Tryz.underlying2) (hf 0 _ rfl) (some_at hyl (by decide)) rfl (by kernel_rfl)
    (chain_cons (o := 1) (s := 1) (treads_int Tryz.underlying2) (hf 1 _ rfl) (some_at hyl (by decide)) rfl (by kernel_rfl)
    (chain_cons (o := 2) (s := 1) (treads_int Tryz.underlying2) (hf 2 _ rfl) (some_at hyl (by decide)) rfl (by kernel_rfl)
    (chain_cons (o := 3) (s := 1) (treads_int Tryz.underlying2) (hf 3 _ rfl) (some_at hyl (by decide)) rfl (by kernel_rfl)
    (chain_one (o := 4) (s := 1) (treads_int Tryz.underlying2) (hf 4 _ rfl) (some_at hyl (by decide)) rfl (by kernel_rfl) hl))))
  obtain ⟨⟨a0, a1, a2, a3, a4⟩, F, hk⟩ := hk
  exact ⟨⟨a0, a1, a2, a3, a4⟩, F, hk⟩
theorem cellsLLease : Tryz.prog.cellsOf 40 = 3 := by kernel_rfl
theorem treads_LLease : TReads Tryz.prog 40 Rep.DLease := by
  intro H enc w base spare held fuel cs y h
  obtain ⟨ys, n, _, _, hl, hyl, hf⟩ := DataW.trod_struct Tryz.underlying40 h
  rw [cellsLLease] at hl
  have hk :=
    chain_cons (o := 0) (s := 1) (treads_int Tryz.underlying2) (hf 0 _ rfl) (some_at hyl (by decide)) rfl (by kernel_rfl)
    (chain_cons (o := 1) (s := 1) (treads_int Tryz.underlying2) (hf 1 _ rfl) (some_at hyl (by decide)) rfl (by kernel_rfl)
    (chain_one (o := 2) (s := 1) (treads_int Tryz.underlying2) (hf 2 _ rfl) (some_at hyl (by decide)) rfl (by kernel_rfl) hl))
  obtain ⟨⟨a0, a1, a2⟩, F, hk⟩ := hk
  exact ⟨⟨a0, a1, a2⟩, F, hk⟩
theorem cellsLState : Tryz.prog.cellsOf 42 = 7 := by kernel_rfl
theorem treads_LState : TReads Tryz.prog 42 Rep.DState := by
  intro H enc w base spare held fuel cs y h
  obtain ⟨ys, n, _, _, hl, hyl, hf⟩ := DataW.trod_struct Tryz.underlying42 h
  rw [cellsLState] at hl
  have hk :=
    chain_cons (o := 0) (s := 1) (treads_int Tryz.underlying2) (hf 0 _ rfl) (some_at hyl (by decide)) rfl (by kernel_rfl)
    (chain_cons (o := 1) (s := 1) (treads_int Tryz.underlying2) (hf 1 _ rfl) (some_at hyl (by decide)) rfl (by kernel_rfl)
    (chain_cons (o := 2) (s := 1) (treads_sl Tryz.underlying37 (by kernel_rfl) treads_LPair) (hf 2 _ rfl) (some_at hyl (by decide)) rfl (by kernel_rfl)
    (chain_cons (o := 3) (s := 1) (treads_sl Tryz.underlying38 (by kernel_rfl) treads_LJob) (hf 3 _ rfl) (some_at hyl (by decide)) rfl (by kernel_rfl)
    (chain_one (o := 4) (s := 3) treads_LLease (hf 4 _ rfl) (some_at hyl (by decide)) rfl (by kernel_rfl) hl))))
  obtain ⟨⟨a0, a1, a2, a3, a4⟩, F, hk⟩ := hk
  exact ⟨⟨a0, a1, a2, a3, a4⟩, F, hk⟩
theorem cellsLStore : Tryz.prog.cellsOf 44 = 12 := by kernel_rfl
theorem treads_LStore : TReads Tryz.prog 44 Rep.DStore := by
  intro H enc w base spare held fuel cs y h
  obtain ⟨ys, n, _, _, hl, hyl, hf⟩ := DataW.trod_struct Tryz.underlying44 h
  rw [cellsLStore] at hl
  have hk :=
    chain_cons (o := 0) (s := 2) treads_LDisk (hf 0 _ rfl) (some_at hyl (by decide)) rfl (by kernel_rfl)
    (chain_cons (o := 2) (s := 7) treads_LState (hf 1 _ rfl) (some_at hyl (by decide)) rfl (by kernel_rfl)
    (chain_cons (o := 9) (s := 1) (treads_int Tryz.underlying2) (hf 2 _ rfl) (some_at hyl (by decide)) rfl (by kernel_rfl)
    (chain_cons (o := 10) (s := 1) (treads_int Tryz.underlying2) (hf 3 _ rfl) (some_at hyl (by decide)) rfl (by kernel_rfl)
    (chain_one (o := 11) (s := 1) (treads_int Tryz.underlying2) (hf 4 _ rfl) (some_at hyl (by decide)) rfl (by kernel_rfl) hl))))
  obtain ⟨⟨a0, a1, a2, a3, a4⟩, F, hk⟩ := hk
  exact ⟨⟨a0, a1, a2, a3, a4⟩, F, hk⟩
theorem cellsLDue : Tryz.prog.cellsOf 298 = 2 := by kernel_rfl
theorem treads_LDue : TReads Tryz.prog 298 Rep.DDue := by
  intro H enc w base spare held fuel cs y h
  obtain ⟨ys, n, _, _, hl, hyl, hf⟩ := DataW.trod_struct Tryz.underlying298 h
  rw [cellsLDue] at hl
  have hk :=
    chain_cons (o := 0) (s := 1) (treads_int Tryz.underlying2) (hf 0 _ rfl) (some_at hyl (by decide)) rfl (by kernel_rfl)
    (chain_one (o := 1) (s := 1) (treads_int Tryz.underlying2) (hf 1 _ rfl) (some_at hyl (by decide)) rfl (by kernel_rfl) hl)
  obtain ⟨⟨a0, a1⟩, F, hk⟩ := hk
  exact ⟨⟨a0, a1⟩, F, hk⟩
theorem cellsLJobs : Tryz.prog.cellsOf 47 = 6 := by kernel_rfl
theorem treads_LJobs : TReads Tryz.prog 47 Rep.DJobs := by
  intro H enc w base spare held fuel cs y h
  obtain ⟨ys, n, _, _, hl, hyl, hf⟩ := DataW.trod_struct Tryz.underlying47 h
  rw [cellsLJobs] at hl
  have hk :=
    chain_cons (o := 0) (s := 1) (treads_int Tryz.underlying2) (hf 0 _ rfl) (some_at hyl (by decide)) rfl (by kernel_rfl)
    (chain_cons (o := 1) (s := 1) (treads_int Tryz.underlying2) (hf 1 _ rfl) (some_at hyl (by decide)) rfl (by kernel_rfl)
    (chain_cons (o := 2) (s := 1) (treads_int Tryz.underlying2) (hf 2 _ rfl) (some_at hyl (by decide)) rfl (by kernel_rfl)
    (chain_cons (o := 3) (s := 1) (treads_int Tryz.underlying2) (hf 3 _ rfl) (some_at hyl (by decide)) rfl (by kernel_rfl)
    (chain_cons (o := 4) (s := 1) (treads_int Tryz.underlying2) (hf 4 _ rfl) (some_at hyl (by decide)) rfl (by kernel_rfl)
    (chain_one (o := 5) (s := 1) (treads_sl Tryz.underlying45 (by kernel_rfl) treads_LDue) (hf 5 _ rfl) (some_at hyl (by decide)) rfl (by kernel_rfl) hl)))))
  obtain ⟨⟨a0, a1, a2, a3, a4, a5⟩, F, hk⟩ := hk
  exact ⟨⟨a0, a1, a2, a3, a4, a5⟩, F, hk⟩
theorem cellsLView : Tryz.prog.cellsOf 49 = 6 := by kernel_rfl
theorem treads_LView : TReads Tryz.prog 49 Rep.DView := by
  intro H enc w base spare held fuel cs y h
  obtain ⟨ys, n, _, _, hl, hyl, hf⟩ := DataW.trod_struct Tryz.underlying49 h
  rw [cellsLView] at hl
  have hk :=
    chain_one (o := 0) (s := 6) treads_LJobs (hf 0 _ rfl) (some_at hyl (by decide)) rfl (by kernel_rfl) hl
  obtain ⟨a0, F, hk⟩ := hk
  exact ⟨⟨a0⟩, F, hk⟩
theorem cellsLSched : Tryz.prog.cellsOf 53 = 15 := by kernel_rfl
theorem treads_LSched : TReads Tryz.prog 53 Rep.DSched := by
  intro H enc w base spare held fuel cs y h
  obtain ⟨ys, n, _, _, hl, hyl, hf⟩ := DataW.trod_struct Tryz.underlying53 h
  rw [cellsLSched] at hl
  have hk :=
    chain_cons (o := 0) (s := 1) (treads_int Tryz.underlying2) (hf 0 _ rfl) (some_at hyl (by decide)) rfl (by kernel_rfl)
    (chain_cons (o := 1) (s := 1) (treads_int Tryz.underlying2) (hf 1 _ rfl) (some_at hyl (by decide)) rfl (by kernel_rfl)
    (chain_cons (o := 2) (s := 6) treads_LView (hf 2 _ rfl) (some_at hyl (by decide)) rfl (by kernel_rfl)
    (chain_cons (o := 8) (s := 1) (treads_bool Tryz.underlying4) (hf 3 _ rfl) (some_at hyl (by decide)) rfl (by kernel_rfl)
    (chain_cons (o := 9) (s := 5) treads_LOp (hf 4 _ rfl) (some_at hyl (by decide)) rfl (by kernel_rfl)
    (chain_one (o := 14) (s := 1) (treads_int Tryz.underlying2) (hf 5 _ rfl) (some_at hyl (by decide)) rfl (by kernel_rfl) hl)))))
  obtain ⟨⟨a0, a1, a2, a3, a4, a5⟩, F, hk⟩ := hk
  exact ⟨⟨a0, a1, a2, a3, a4, a5⟩, F, hk⟩
theorem cellsLGot : Tryz.prog.cellsOf 223 = 4 := by kernel_rfl
theorem treads_LGot : TReads Tryz.prog 223 Rep.DGot := by
  intro H enc w base spare held fuel cs y h
  obtain ⟨ys, n, _, _, hl, hyl, hf⟩ := DataW.trod_struct Tryz.underlying223 h
  rw [cellsLGot] at hl
  have hk :=
    chain_cons (o := 0) (s := 1) (treads_int Tryz.underlying2) (hf 0 _ rfl) (some_at hyl (by decide)) rfl (by kernel_rfl)
    (chain_cons (o := 1) (s := 1) (treads_int Tryz.underlying2) (hf 1 _ rfl) (some_at hyl (by decide)) rfl (by kernel_rfl)
    (chain_cons (o := 2) (s := 1) (treads_int Tryz.underlying2) (hf 2 _ rfl) (some_at hyl (by decide)) rfl (by kernel_rfl)
    (chain_one (o := 3) (s := 1) (treads_int Tryz.underlying2) (hf 3 _ rfl) (some_at hyl (by decide)) rfl (by kernel_rfl) hl)))
  obtain ⟨⟨a0, a1, a2, a3⟩, F, hk⟩ := hk
  exact ⟨⟨a0, a1, a2, a3⟩, F, hk⟩
theorem cellsLClient : Tryz.prog.cellsOf 57 = 4 := by kernel_rfl
theorem treads_LClient : TReads Tryz.prog 57 Rep.DClient := by
  intro H enc w base spare held fuel cs y h
  obtain ⟨ys, n, _, _, hl, hyl, hf⟩ := DataW.trod_struct Tryz.underlying57 h
  rw [cellsLClient] at hl
  have hk :=
    chain_cons (o := 0) (s := 1) (treads_int Tryz.underlying2) (hf 0 _ rfl) (some_at hyl (by decide)) rfl (by kernel_rfl)
    (chain_cons (o := 1) (s := 1) (treads_sl Tryz.underlying54 (by kernel_rfl) treads_LWant) (hf 1 _ rfl) (some_at hyl (by decide)) rfl (by kernel_rfl)
    (chain_cons (o := 2) (s := 1) (treads_sl Tryz.underlying55 (by kernel_rfl) treads_LGot) (hf 2 _ rfl) (some_at hyl (by decide)) rfl (by kernel_rfl)
    (chain_one (o := 3) (s := 1) (treads_int Tryz.underlying2) (hf 3 _ rfl) (some_at hyl (by decide)) rfl (by kernel_rfl) hl)))
  obtain ⟨⟨a0, a1, a2, a3⟩, F, hk⟩ := hk
  exact ⟨⟨a0, a1, a2, a3⟩, F, hk⟩
theorem cellsLMsg : Tryz.prog.cellsOf 189 = 3 := by kernel_rfl
theorem treads_LMsg : TReads Tryz.prog 189 Rep.DMsg := by
  intro H enc w base spare held fuel cs y h
  obtain ⟨ys, n, _, _, hl, hyl, hf⟩ := DataW.trod_struct Tryz.underlying189 h
  rw [cellsLMsg] at hl
  have hk :=
    chain_cons (o := 0) (s := 1) (treads_int Tryz.underlying2) (hf 0 _ rfl) (some_at hyl (by decide)) rfl (by kernel_rfl)
    (chain_cons (o := 1) (s := 1) (treads_int Tryz.underlying2) (hf 1 _ rfl) (some_at hyl (by decide)) rfl (by kernel_rfl)
    (chain_one (o := 2) (s := 1) (treads_sl Tryz.underlying62 (by kernel_rfl) (treads_int Tryz.underlying2)) (hf 2 _ rfl) (some_at hyl (by decide)) rfl (by kernel_rfl) hl))
  obtain ⟨⟨a0, a1, a2⟩, F, hk⟩ := hk
  exact ⟨⟨a0, a1, a2⟩, F, hk⟩
theorem cellsLLink : Tryz.prog.cellsOf 226 = 2 := by kernel_rfl
theorem treads_LLink : TReads Tryz.prog 226 Rep.DLink := by
  intro H enc w base spare held fuel cs y h
  obtain ⟨ys, n, _, _, hl, hyl, hf⟩ := DataW.trod_struct Tryz.underlying226 h
  rw [cellsLLink] at hl
  have hk :=
    chain_cons (o := 0) (s := 1) (treads_int Tryz.underlying2) (hf 0 _ rfl) (some_at hyl (by decide)) rfl (by kernel_rfl)
    (chain_one (o := 1) (s := 1) (treads_int Tryz.underlying2) (hf 1 _ rfl) (some_at hyl (by decide)) rfl (by kernel_rfl) hl)
  obtain ⟨⟨a0, a1⟩, F, hk⟩ := hk
  exact ⟨⟨a0, a1⟩, F, hk⟩
theorem cellsLNet : Tryz.prog.cellsOf 61 = 2 := by kernel_rfl
theorem treads_LNet : TReads Tryz.prog 61 Rep.DNet := by
  intro H enc w base spare held fuel cs y h
  obtain ⟨ys, n, _, _, hl, hyl, hf⟩ := DataW.trod_struct Tryz.underlying61 h
  rw [cellsLNet] at hl
  have hk :=
    chain_cons (o := 0) (s := 1) (treads_sl Tryz.underlying58 (by kernel_rfl) treads_LMsg) (hf 0 _ rfl) (some_at hyl (by decide)) rfl (by kernel_rfl)
    (chain_one (o := 1) (s := 1) (treads_sl Tryz.underlying59 (by kernel_rfl) treads_LLink) (hf 1 _ rfl) (some_at hyl (by decide)) rfl (by kernel_rfl) hl)
  obtain ⟨⟨a0, a1⟩, F, hk⟩ := hk
  exact ⟨⟨a0, a1⟩, F, hk⟩
theorem cellsLWorld : Tryz.prog.cellsOf 65 = 73 := by kernel_rfl
theorem treads_LWorld : TReads Tryz.prog 65 Rep.DWorld := by
  intro H enc w base spare held fuel cs y h
  obtain ⟨ys, n, _, _, hl, hyl, hf⟩ := DataW.trod_struct Tryz.underlying65 h
  rw [cellsLWorld] at hl
  have hk :=
    chain_cons (o := 0) (s := 19) treads_LLogNode (hf 0 _ rfl) (some_at hyl (by decide)) rfl (by kernel_rfl)
    (chain_cons (o := 19) (s := 12) treads_LStore (hf 1 _ rfl) (some_at hyl (by decide)) rfl (by kernel_rfl)
    (chain_cons (o := 31) (s := 15) treads_LSched (hf 2 _ rfl) (some_at hyl (by decide)) rfl (by kernel_rfl)
    (chain_cons (o := 46) (s := 15) treads_LSched (hf 3 _ rfl) (some_at hyl (by decide)) rfl (by kernel_rfl)
    (chain_cons (o := 61) (s := 4) treads_LClient (hf 4 _ rfl) (some_at hyl (by decide)) rfl (by kernel_rfl)
    (chain_cons (o := 65) (s := 4) treads_LClient (hf 5 _ rfl) (some_at hyl (by decide)) rfl (by kernel_rfl)
    (chain_cons (o := 69) (s := 2) treads_LNet (hf 6 _ rfl) (some_at hyl (by decide)) rfl (by kernel_rfl)
    (chain_cons (o := 71) (s := 1) (treads_sl Tryz.underlying62 (by kernel_rfl) (treads_int Tryz.underlying2)) (hf 7 _ rfl) (some_at hyl (by decide)) rfl (by kernel_rfl)
    (chain_one (o := 72) (s := 1) (treads_sl Tryz.underlying63 (by kernel_rfl) (treads_bool Tryz.underlying4)) (hf 8 _ rfl) (some_at hyl (by decide)) rfl (by kernel_rfl) hl))))))))
  obtain ⟨⟨a0, a1, a2, a3, a4, a5, a6, a7, a8⟩, F, hk⟩ := hk
  exact ⟨⟨a0, a1, a2, a3, a4, a5, a6, a7, a8⟩, F, hk⟩
end Go.Proofs.YthmckpghadfeeaaGreat
