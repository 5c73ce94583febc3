/- Joined: WB8 WB9 -/
import Derived.Test.YtmgcnmdbhahhlaaGreatJ10
import Derived.Test.YtmgcnmdbhahhlaaGreatJ02
import Derived.Test.YtmgcnmdbhahhlaaGreatJ07
set_option linter.unusedVariables false
set_option linter.unusedSimpArgs false
set_option maxRecDepth 100000
namespace Go.Proofs.YtmgcnmdbhahhlaaGreat
open Go.ChangeShapes Go.WideShapes Go.RowKit
def dk_WB8_spec_l12Next_1 : List (List Nat) := unqs [0, 1, 129, 12354, 0, 0, 6, 0, 29064, 1134768026845575, 0, 12864277808390344836]
def fk_WB8_spec_l12Next_1 : List (List Nat) := unps 11 [137700, 137701, 137704, 137713, 137618, 122714, 122957, 120284, 121499, 127939, 59048]
def dk_WB8_spec_l12Next_2 : List (List Nat) := unqs [0, 1, 129, 0, 4, 0, 6, 454, 33159, 0, 348045206026, 3477390936682303749, 891282945137324073027, 61613317297253055217996, 61613317297253055217996, 311902252276487849558862, 313778539262838596778864769]
def fk_WB8_spec_l12Next_2 : List (List Nat) := unps 16 [177120, 177121, 177124, 58832, 58859, 39608, 39851, 40580, 42767, 19682, 29537, 88573, 265720, 10363099, 32683621, 11957422]
def dk_WB8_spec_LogOk_4 : List (List Nat) := unqs [0, 1, 129, 12354, 12354, 1318979, 4328796549, 486506500228, 13265141784903, 2564411225022531, 180992954169053641, 12846258869076758730, 180992954169053641, 15152101878290452682, 1044601217194554323533, 180992954169053641, 18610866392110993610, 1265962146079068942928, 61643244241572623809819474207761, 6253342968646612939663330639098508, 208670669043823421316907952234890323, 28314001861476616795539653203079991498, 1884907940883966248012842449817758143701, 127036007146039858029436393339887821271702, 8483413557665557517948716269031472085939543, 494117307255086448119078571165026390822458840]
def fk_WB8_spec_LogOk_4 : List (List Nat) := unps 18 [0, 1, 4, 661, 67, 148, 364, 1093, 3280, 9841, 386918572, 386977621, 373573498, 374104939, 375699262, 14319382, 28668289, 71715010]
def dk_WB8_spec_LogOk_8 : List (List Nat) := unqs [0, 1, 129, 0, 4, 324, 24837, 0, 8, 848968016749128, 182435784024662083, 12736470503747260938, 897119605715636850891, 12736470503747260938, 12736470503747260938, 1118480534600151470283, 76372997838154148119183, 273860148148388040230638544, 66793074800348938976694370366542, 3584997738418217364984844423078669, 419664783318470256266126788995322059]
def fk_WB8_spec_LogOk_8 : List (List Nat) := unps 18 [19656, 19657, 19660, 17522, 17549, 17630, 17873, 2186, 4373, 9841, 29524, 385914739, 386091886, 125862943, 4694395, 9477364, 23826271, 65278669]

def nextAt (n : DLogNode) (i : Int) : DHead := ⟨n.head.num + 1, i, timeAt n.book i, (seenOver n.head.seen (partL n.book (n.book.base + 1) i)).1⟩
theorem sl12Next_p (n : DLogNode) (i : Int) (hb : bookOk n.book = true) (hn : 0 ≤ n.head.num ∧ n.head.num ≤ 2000) (h1 : n.book.base + 1 ≤ i) (h2 : i ≤ lastB n.book) : PCall av 250 [.agg n.ds, .one (dI i)] (.val (.agg (nextAt n i).ds)) := by
  have hp := book_parts hb
  have hq := book_last hb
  have h20 := hp.2.2.1
  refine pcall_of av_ok Tryz.func250 rfl Tryz.call250 Tryz.ntmps250 (congrArg Array.toList Tryz.results250) fun S => ?_; conv => whnf
  repeat' (first | (refine aw0 ?_) | ((first | refine aw1 ?_ | refine aw2 ?_ | refine aw3 ?_ | refine aw4 ?_ | refine aw5 ?_ | refine aw6 ?_ | refine aw7 ?_ | refine aw8 ?_); conv => whnf) | ((first | refine bT ?_ | refine bF ?_); conv => whnf) | (refine AWP.drawK av_ok 1 11 dk_WB8_spec_l12Next_1 fk_WB8_spec_l12Next_1 (by kernel_rfl) (by kernel_rfl) (by kernel_rfl) rfl ?_; conv => whnf) | (refine AW.i64 (by omega) (by omega) ?_; conv => whnf) | (refine ACall.pure (sl8TimeAt_p n.book i hb h1 h2) rfl ?_; conv => whnf) | (refine AFCall.mk ⟨_, _, sl8TimeAt_p n.book i hb h1 h2, .inl rfl, ?_⟩; conv => whnf) | (exact rr) | (refine And.intro rfl ?_; conv => whnf) | (refine AB.mk (fun h => ?_) (fun h => ?_) <;> (conv => whnf)))
  refine AWP.drawSO av_ok 2 16 dk_WB8_spec_l12Next_2 fk_WB8_spec_l12Next_2 15 13 (by kernel_rfl) (by kernel_rfl) (by kernel_rfl) rfl ⟨_, rfl, rfl, rfl, rfl⟩ rfl rfl rfl rfl ?_; conv => whnf
  repeat' (first | (refine aw0 ?_) | ((first | refine aw1 ?_ | refine aw2 ?_ | refine aw3 ?_ | refine aw4 ?_ | refine aw5 ?_ | refine aw6 ?_ | refine aw7 ?_ | refine aw8 ?_); conv => whnf) | ((first | refine bT ?_ | refine bF ?_); conv => whnf) | (refine AW.i64 (by omega) (by omega) ?_; conv => whnf) | (refine ACall.pure (sl12Part_p n.book _ _ h20) rfl ?_; conv => whnf) | (refine AFCall.mk ⟨_, _, sl12Part_p n.book _ _ h20, .inl rfl, ?_⟩; conv => whnf) | (refine ACall.pure (sSeenOver_p n.head.seen (partL n.book (n.book.base + 1) i)) rfl ?_; conv => whnf) | (refine AFCall.mk ⟨_, _, sSeenOver_p n.head.seen (partL n.book (n.book.base + 1) i), .inl rfl, ?_⟩; conv => whnf) | (exact rr) | (refine And.intro rfl ?_; conv => whnf) | (refine AB.mk (fun h => ?_) (fun h => ?_) <;> (conv => whnf)))
  refine ⟨_, _, _, _, _, ?o1, rfl, rfl, rfl, rfl, ?hst, ?hk⟩
  case hst =>
    conv => whnf
  conv => whnf
  refine ⟨rfl, ?_, ?_⟩
  · repeat' (first | exact trivial | exact ⟨rfl, rfl⟩ | (refine ⟨?_, ?_⟩) | (refine aw0 ?_) | ((first | refine aw1 ?_ | refine aw2 ?_ | refine aw3 ?_ | refine aw4 ?_ | refine aw5 ?_ | refine aw6 ?_ | refine aw7 ?_ | refine aw8 ?_); conv => whnf) | ((first | refine bT ?_ | refine bF ?_); conv => whnf) | (conv => whnf))
  conv => whnf
  repeat' (first | (refine aw0 ?_) | ((first | refine aw1 ?_ | refine aw2 ?_ | refine aw3 ?_ | refine aw4 ?_ | refine aw5 ?_ | refine aw6 ?_ | refine aw7 ?_ | refine aw8 ?_); conv => whnf) | ((first | refine bT ?_ | refine bF ?_); conv => whnf) | (exact rr) | (refine And.intro rfl ?_; conv => whnf) | (refine AB.mk (fun h => ?_) (fun h => ?_) <;> (conv => whnf)))
  all_goals rfl
theorem pair_eq {α : Type} [BEq α] [LawfulBEq α] [DecidableEq α] (x : α × Bool) (s : α) : (x == (s, true)) = (x.2 && decide (x.1 = s)) := by
  obtain ⟨a, b⟩ := x
  cases b <;> (rw [Bool.eq_iff_iff]; simp [Prod.mk.injEq])
def logP1 (n : DLogNode) : Bool := keptOk n.two && headOk n.head && bookOk n.book && n.book.base == n.head.base && n.book.time == n.head.time
def logP2 (n : DLogNode) : Bool := (seenOver n.head.seen n.book.entries).2 && decide ((seenOver n.head.seen n.book.entries).1 = n.seen) && betweenB n.durable n.book.base (lastB n.book)
theorem beq_dec {α : Type} [BEq α] [LawfulBEq α] [DecidableEq α] (a b : α) : (a == b) = decide (a = b) := by
  rw [Bool.eq_iff_iff]; simp
theorem logOk_eq (n : DLogNode) : logOk n = (logP1 n && logP2 n && decide (n.owe = (entAfter n.book n.durable).map ackOf) && nextOkB n) := by
  simp only [logOk, logP1, logP2, pair_eq, Bool.and_assoc, beq_dec n.owe]
theorem log_p1 {n : DLogNode} (h : logP1 n = true) : keptOk n.two = true ∧ headOk n.head = true ∧ bookOk n.book = true ∧ n.book.base = n.head.base ∧ n.book.time = n.head.time := by
  simp only [logP1, Bool.and_eq_true, beq_iff_eq] at h
  exact ⟨h.1.1.1.1, h.1.1.1.2, h.1.1.2, h.1.2, h.2⟩
theorem head_bounds {h : DHead} (hh : headOk h = true) : (0 ≤ h.num ∧ h.num ≤ 2000) ∧ (0 ≤ h.base ∧ h.base ≤ 2000) ∧ seenOk h.seen = true := by
  simp only [headOk, Bool.and_eq_true, betweenB, decide_eq_true_eq] at hh
  exact ⟨by omega, by omega, hh.1.2⟩
theorem logOk_1 {n : DLogNode} (h : logP1 n = false) : logOk n = false := by simp only [logOk_eq, h, Bool.false_and]
theorem logOk_2 {n : DLogNode} (h : logP2 n = false) : logOk n = false := by simp only [logOk_eq, h, Bool.false_and, Bool.and_false]
theorem logOk_3 {n : DLogNode} (h : decide (n.owe = (entAfter n.book n.durable).map ackOf) = false) : logOk n = false := by simp only [logOk_eq, h, Bool.false_and, Bool.and_false]
theorem logOk_4 {n : DLogNode} {b : Bool} (h1 : logP1 n = true) (h2 : logP2 n = true) (h3 : decide (n.owe = (entAfter n.book n.durable).map ackOf) = true) (h : b = nextOkB n) : b = logOk n := by simp only [logOk_eq, h1, h2, h3, h, Bool.true_and]
theorem dur_of {n : DLogNode} (h : (!betweenB n.durable n.book.base (lastB n.book)) = false) : n.book.base ≤ n.durable ∧ n.durable ≤ lastB n.book := by
  simpa [betweenB] using h
theorem p2_a {n : DLogNode} (h : (!(seenOver n.head.seen n.book.entries).snd) = true) : logP2 n = false := by
  rw [Bool.not_eq_true'] at h; simp only [logP2, h, Bool.false_and]
theorem p2_b {n : DLogNode} (h : (!decide ((seenOver n.head.seen n.book.entries).fst = n.seen)) = true) : logP2 n = false := by
  rw [Bool.not_eq_true'] at h; simp only [logP2, h, Bool.false_and, Bool.and_false]
theorem p2_c {n : DLogNode} (h : (!betweenB n.durable n.book.base (lastB n.book)) = true) : logP2 n = false := by
  rw [Bool.not_eq_true'] at h; simp only [logP2, h, Bool.and_false]
theorem p2_y {n : DLogNode} (h1 : (!(seenOver n.head.seen n.book.entries).snd) = false) (h2 : (!decide ((seenOver n.head.seen n.book.entries).fst = n.seen)) = false) (h3 : (!betweenB n.durable n.book.base (lastB n.book)) = false) : logP2 n = true := by
  rw [Bool.not_eq_false'] at h1 h2 h3; simp only [logP2, h1, h2, h3, Bool.and_self]
theorem over_small {s : List DMark} {l : List DEntry} (h : seenOk s = true) : (seenOver s l).1.length ≤ 4 := by
  unfold seenOver
  simp only [h, Bool.not_true, Bool.false_eq_true, if_false]
  split
  · exact seen_le4 h
  · cases hf : seenFold s l with
    | none => exact seen_le4 h
    | some c => exact seen_le4 (fold_seen h hf)
theorem nextOk_down {n : DLogNode} (h : (!n.more) = true) : decide (n.nxt = head0) = nextOkB n := by
  rw [Bool.not_eq_true'] at h; simp only [nextOkB, h, Bool.false_eq_true, if_false, beq_dec n.nxt]
theorem nextAt_next {n : DLogNode} (hb : bookOk n.book = true) : nextAt n n.nxt.base = nextHead n := by
  simp only [nextAt, nextHead, part_to hb, timeAt, entry0]
theorem nextOk_in {n : DLogNode} (hm : (!n.more) = false) : nextOkB n = (betweenB n.nxt.base (n.head.base + 1) n.durable && decide (n.nxt = nextHead n)) := by
  rw [Bool.not_eq_false'] at hm; simp only [nextOkB, hm, if_true, beq_dec n.nxt]
theorem next_lo {n : DLogNode} (hbb : n.book.base = n.head.base) (h : betweenB n.nxt.base (n.head.base + 1) n.durable = true) : n.book.base + 1 ≤ n.nxt.base := by
  simp only [betweenB, Bool.and_eq_true, decide_eq_true_eq] at h; omega
theorem next_hi {n : DLogNode} (h3 : (!betweenB n.durable n.book.base (lastB n.book)) = false) (h : betweenB n.nxt.base (n.head.base + 1) n.durable = true) : n.nxt.base ≤ lastB n.book := by
  have := dur_of h3
  simp only [betweenB, Bool.and_eq_true, decide_eq_true_eq] at h; omega
theorem nextAt_len {n : DLogNode} {i : Int} (h : seenOk n.head.seen = true) : (nextAt n i).seen.length ≤ 9223372036854775806 := Nat.le_trans (over_small h) (by decide)
set_option maxHeartbeats 2000000 in
theorem sLogOk_p (n : DLogNode) (hhs : n.head.seen.length ≤ 9223372036854775806) (ho : n.owe.length ≤ 9223372036854775806) (hs : n.seen.length ≤ 9223372036854775806) (hx : n.nxt.seen.length ≤ 9223372036854775806) : PCall av 183 [.agg n.ds] (rB (logOk n)) := by
  refine pcall_of av_ok Tryz.func183 rfl Tryz.call183 Tryz.ntmps183 (congrArg Array.toList Tryz.results183) fun S => ?_; conv => whnf
  repeat' (first | (refine aw0 ?_) | ((first | refine aw1 ?_ | refine aw2 ?_ | refine aw3 ?_ | refine aw4 ?_ | refine aw5 ?_ | refine aw6 ?_ | refine aw7 ?_ | refine aw8 ?_); conv => whnf) | ((first | refine bT ?_ | refine bF ?_); conv => whnf) | (refine ACall.pure (sKeptOk_p n.two) rfl ?_; conv => whnf) | (refine AFCall.mk ⟨_, _, sKeptOk_p n.two, .inl rfl, ?_⟩; conv => whnf) | (refine ACall.pure (sHeadOk_p n.head hhs) rfl ?_; conv => whnf) | (refine AFCall.mk ⟨_, _, sHeadOk_p n.head hhs, .inl rfl, ?_⟩; conv => whnf) | (refine ACall.pure (sBookOk_p n.book) rfl ?_; conv => whnf) | (refine AFCall.mk ⟨_, _, sBookOk_p n.book, .inl rfl, ?_⟩; conv => whnf) | (refine ACall.pure (sSeenOver_p n.head.seen n.book.entries) rfl ?_; conv => whnf) | (refine AFCall.mk ⟨_, _, sSeenOver_p n.head.seen n.book.entries, .inl rfl, ?_⟩; conv => whnf) | (exact rr) | (refine And.intro rfl ?_; conv => whnf) | (refine AB.mk (fun h => ?_) (fun h => ?_) <;> (conv => whnf)))
  all_goals first
    | (have hno : logP1 n = false := by simp_all [logP1]
       rw [logOk_1 hno]; done)
    | skip
  have h1 : logP1 n = true := by simp_all [logP1]
  obtain ⟨hk, hh, hb, hbb, htt⟩ := log_p1 h1
  have hq := head_bounds hh
  have hp := book_parts hb
  have hl := book_last hb
  have hsv : (seenOver n.head.seen n.book.entries).1.length ≤ 9223372036854775806 := Nat.le_trans (over_small hq.2.2) (by decide)
  repeat' (first | (refine aw0 ?_) | ((first | refine aw1 ?_ | refine aw2 ?_ | refine aw3 ?_ | refine aw4 ?_ | refine aw5 ?_ | refine aw6 ?_ | refine aw7 ?_ | refine aw8 ?_); conv => whnf) | ((first | refine bT ?_ | refine bF ?_); conv => whnf) | (refine AWP.drawK av_ok 4 18 dk_WB8_spec_LogOk_4 fk_WB8_spec_LogOk_4 (by kernel_rfl) (by kernel_rfl) (by kernel_rfl) rfl ?_; conv => whnf) | (refine ACall.pure (sSameSeen_p (seenOver n.head.seen n.book.entries).1 n.seen hsv) rfl ?_; conv => whnf) | (refine AFCall.mk ⟨_, _, sSameSeen_p (seenOver n.head.seen n.book.entries).1 n.seen hsv, .inl rfl, ?_⟩; conv => whnf) | (refine ACall.pure (sl8Last_p n.book hb) rfl ?_; conv => whnf) | (refine AFCall.mk ⟨_, _, sl8Last_p n.book hb, .inl rfl, ?_⟩; conv => whnf) | (refine ACall.pure (sl1In_p _ _ _) rfl ?_; conv => whnf) | (refine AFCall.mk ⟨_, _, sl1In_p _ _ _, .inl rfl, ?_⟩; conv => whnf) | (refine ACall.pure (sl12Owes_p n hb (dur_of (by assumption)) ho) rfl ?_; conv => whnf) | (refine AFCall.mk ⟨_, _, sl12Owes_p n hb (dur_of (by assumption)) ho, .inl rfl, ?_⟩; conv => whnf) | (exact rr) | (refine And.intro rfl ?_; conv => whnf) | (refine AB.mk (fun h => ?_) (fun h => ?_) <;> (conv => whnf)))
  all_goals first
    | (rw [logOk_2 (p2_a h)]; done)
    | (rw [logOk_2 (p2_b h)]; done)
    | (rw [logOk_2 (p2_c h)]; done)
    | (rw [logOk_3 (by rwa [Bool.not_eq_true'] at h)]; done)
    | skip
  all_goals
    have h2 : logP2 n = true := p2_y (by assumption) (by assumption) (by assumption)
    have h3 : decide (n.owe = (entAfter n.book n.durable).map ackOf) = true := by
      have : (!decide (n.owe = List.map ackOf (entAfter n.book n.durable))) = false := by assumption
      rwa [Bool.not_eq_false'] at this
    repeat' (first | (refine aw0 ?_) | ((first | refine aw1 ?_ | refine aw2 ?_ | refine aw3 ?_ | refine aw4 ?_ | refine aw5 ?_ | refine aw6 ?_ | refine aw7 ?_ | refine aw8 ?_); conv => whnf) | ((first | refine bT ?_ | refine bF ?_); conv => whnf) | (refine AWP.drawK av_ok 8 18 dk_WB8_spec_LogOk_8 fk_WB8_spec_LogOk_8 (by kernel_rfl) (by kernel_rfl) (by kernel_rfl) rfl ?_; conv => whnf) | (refine AW.i64 (by omega) (by omega) ?_; conv => whnf) | (refine ACall.pure (sl1In_p _ _ _) rfl ?_; conv => whnf) | (refine AFCall.mk ⟨_, _, sl1In_p _ _ _, .inl rfl, ?_⟩; conv => whnf) | (refine ACall.pure (sl12SameHead_p n.nxt head0 hx) rfl ?_; conv => whnf) | (refine AFCall.mk ⟨_, _, sl12SameHead_p n.nxt head0 hx, .inl rfl, ?_⟩; conv => whnf) | (refine ACall.pure (sl12Next_p n n.nxt.base hb hq.1 (next_lo hbb (by assumption)) (next_hi (by assumption) (by assumption))) rfl ?_; conv => whnf) | (refine AFCall.mk ⟨_, _, sl12Next_p n n.nxt.base hb hq.1 (next_lo hbb (by assumption)) (next_hi (by assumption) (by assumption)), .inl rfl, ?_⟩; conv => whnf) | (refine ACall.pure (sl12SameHead_p n.nxt (nextAt n n.nxt.base) hx) rfl ?_; conv => whnf) | (refine AFCall.mk ⟨_, _, sl12SameHead_p n.nxt (nextAt n n.nxt.base) hx, .inl rfl, ?_⟩; conv => whnf) | (exact rr) | (refine And.intro rfl ?_; conv => whnf) | (refine AB.mk (fun h => ?_) (fun h => ?_) <;> (conv => whnf)))
    all_goals
      refine rB_of (logOk_4 h1 h2 h3 ?_)
      first
        | exact nextOk_down (by assumption)
        | (rw [nextOk_in (by assumption), nextAt_next hb]; simp_all; done)
        | (rw [nextOk_in (by assumption), ← nextAt_next hb]; simp_all; done)
end Go.Proofs.YtmgcnmdbhahhlaaGreat
namespace Go.Proofs.YtmgcnmdbhahhlaaGreat
open Go.ChangeShapes Go.WideShapes Go.RowKit
def dk_WB9_impl_EntryAt_1 : List (List Nat) := unqs [0, 1, 129, 12354, 1056835, 1056835, 101453956, 7583830214, 1056835, 151785604, 90920957393793673, 12847112094327771333, 297472660140854125131]
def fk_WB9_impl_EntryAt_1 : List (List Nat) := unps 10 [0, 1, 4, 13, 58846, 52690, 52933, 53662, 6520, 13081]
def dk_WB9_impl_seenUpTo_1 : List (List Nat) := unqs [0, 1, 0, 3, 0, 0, 6, 20934, 4347421125, 567971962978500, 181283635458248770, 181283635458248770, 813983152403580207756, 56817288236698778510155]
def fk_WB9_impl_seenUpTo_1 : List (List Nat) := unps 12 [19674, 19675, 6488, 6497, 2024, 242, 485, 1133, 3284, 9841, 383818, 147622]
def dk_WB9_impl_LogOk_4 : List (List Nat) := unqs [0, 1, 129, 12354, 12354, 1318979, 4328796549, 486506500228, 13265141784903, 2564411225022531, 180992954169053641, 12846258869076758730, 180992954169053641, 15152101878290452682, 1044601217194554323533, 180992954169053641, 18610866392110993610, 1265962146079068942928, 61643244241572623809819474207761, 6253342968646612939663330639098508, 208670669043823421316907952234890323]
def fk_WB9_impl_LogOk_4 : List (List Nat) := unps 18 [0, 1, 4, 661, 67, 148, 364, 1093, 3280, 9841, 386918572, 386977621, 373573498, 374104939, 375699262, 14319382, 28668289, 71715010]
def dk_WB9_impl_LogOk_6 : List (List Nat) := unqs [0, 1, 129, 12354, 1056835, 12354, 1581123, 12354, 2105411, 484274889288, 90920957427880327, 3477390728426987781, 891283231214307909699]
def fk_WB9_impl_LogOk_6 : List (List Nat) := unps 10 [0, 1, 4, 58819, 58846, 17725, 17968, 2173, 4360, 9949]

theorem fold_prefix {s c : List DMark} {l : List DEntry} (h : seenFold s l = some c) (k : Nat) : ∃ c', seenFold s (l.take k) = some c' := by
  rw [← List.take_append_drop k l, fold_append] at h
  cases hk : seenFold s (l.take k) with
  | none => rw [hk] at h; cases h
  | some c' => exact ⟨c', rfl⟩
theorem fold_last {s c : List DMark} {l : List DEntry} {k : Nat} (hk : k < l.length) (h : seenFold s (l.take (k + 1)) = some c) : lastSeenL c = l[k].index := by
  obtain ⟨c0, h0⟩ := fold_prefix h k
  rw [List.take_take, Nat.min_eq_left (by omega)] at h0
  rw [fold_snoc hk h0] at h
  unfold markedO at h
  split at h
  · rename_i hc
    injection h with h
    subst h
    simp only [Bool.and_eq_true, decide_eq_true_eq] at hc
    exact last_put2 (by omega)
  · cases h
theorem over_yes {s : List DMark} {l : List DEntry} (hs : seenOk s = true) (h : (seenOver s l).2 = true) : l.length ≤ 2000 ∧ ∃ c, seenFold s l = some c := by
  unfold seenOver at h
  simp only [hs, Bool.not_true, Bool.false_eq_true, if_false] at h
  split at h
  · cases h
  · rename_i hl
    refine ⟨by omega, ?_⟩
    cases hf : seenFold s l with
    | none => rw [hf] at h; cases h
    | some c => exact ⟨c, rfl⟩
theorem next_headOk {n : DLogNode} (hb : bookOk n.book = true) (hh : headOk n.head = true) (hbb : n.book.base = n.head.base) (hso : (seenOver n.head.seen n.book.entries).2 = true) (h1 : n.head.base + 1 ≤ n.nxt.base) (h2 : n.nxt.base ≤ lastB n.book) : headOk (nextHead n) = true := by
  have hq := head_bounds hh
  have hl := book_last hb
  obtain ⟨hlen, c, hc⟩ := over_yes hq.2.2 hso
  obtain ⟨k, hk⟩ : ∃ k : Nat, n.nxt.base = n.book.base + 1 + k := ⟨(n.nxt.base - n.book.base - 1).toNat, by omega⟩
  have hkl : k < n.book.entries.length := by unfold lastB at h2; omega
  obtain ⟨c', hc'⟩ := fold_prefix hc (k + 1)
  have e1 : (n.nxt.base - n.book.base).toNat = k + 1 := by omega
  have e2 : (n.nxt.base - n.book.base - 1).toNat = k := by omega
  have hov : seenOver n.head.seen (entTo n.book n.nxt.base) = (c', true) := by
    unfold entTo
    rw [e1]
    exact over_some hq.2.2 (by simp; omega) hc'
  have hlast := fold_last hkl hc'
  have hidx := book_index hb k hkl
  have hent := book_entry hb hkl
  have ht : tOk n.book.entries[k].time = true := by
    simp only [entryOk, Bool.and_eq_true] at hent
    simpa [tOk] using hent.1.1.1.2
  have hnum : n.head.num ≤ n.head.base := by
    simp only [headOk, Bool.and_eq_true, betweenB, decide_eq_true_eq] at hh
    omega
  have eH : nextHead n = ⟨n.head.num + 1, n.nxt.base, n.book.entries[k].time, c'⟩ := by
    simp only [nextHead, hov, e2, List.getD_eq_getElem?_getD, List.getElem?_eq_getElem hkl, Option.getD_some]
  have hcs := fold_seen hq.2.2 hc'
  rw [eH]
  simp only [headOk, Bool.and_eq_true, betweenB, decide_eq_true_eq, Bool.or_eq_true, beq_iff_eq]
  exact ⟨⟨⟨⟨⟨⟨by omega, by omega⟩, by omega, by omega⟩, ht⟩, .inl (by omega)⟩, hcs⟩, by omega⟩
def entAt (b : DBook) (i : Int) : DEntry := b.entries.getD (i - b.base - 1).toNat entry0
theorem bt_in {x lo hi : Int} (h1 : lo ≤ x) (h2 : x ≤ hi) : betweenB x lo hi = true := by simp [betweenB, h1, h2]
theorem iEntryAt_p (b : DBook) (i : Int) (hb : bookOk b = true) (h1 : b.base + 1 ≤ i) (h2 : i ≤ lastB b) : PCall av 328 [.agg b.ds, .one (dI i)] (.tup [.agg (entAt b i).ds, .one (dB true)]) := by
  have hp := book_parts hb
  have hq := book_last hb
  have hbt : (!betweenB i (b.base + 1) (lastB b)) = false := by rw [bt_in h1 h2]; rfl
  have hbn : (!bookOk b) = false := by rw [hb]; rfl
  obtain ⟨k, hk⟩ : ∃ k : Nat, i - b.base - 1 = k := ⟨(i - b.base - 1).toNat, by omega⟩
  have hkl : k < b.entries.length := by unfold lastB at h2; omega
  refine pcall_of av_ok Tryz.func328 rfl Tryz.call328 Tryz.ntmps328 (congrArg Array.toList Tryz.results328) fun S => ?_; conv => whnf
  repeat' (first | (refine aw0 ?_) | ((first | refine aw1 ?_ | refine aw2 ?_ | refine aw3 ?_ | refine aw4 ?_ | refine aw5 ?_ | refine aw6 ?_ | refine aw7 ?_ | refine aw8 ?_); conv => whnf) | ((first | refine bT ?_ | refine bF ?_); conv => whnf) | (refine AWP.drawK av_ok 1 10 dk_WB9_impl_EntryAt_1 fk_WB9_impl_EntryAt_1 (by kernel_rfl) (by kernel_rfl) (by kernel_rfl) rfl ?_; conv => whnf) | (refine AW.i64 (by omega) (by omega) ?_; conv => whnf) | (refine AIx.at k (DEntry.ds (b.entries[k]'hkl)) hk (by simp [hkl]) ?_; conv => whnf) | (refine ACall.pure (iBookOk_p b) rfl ?_; conv => whnf) | (refine AFCall.mk ⟨_, _, iBookOk_p b, .inl rfl, ?_⟩; conv => whnf) | (refine ACall.pure (ilastOf_p b hb) rfl ?_; conv => whnf) | (refine AFCall.mk ⟨_, _, ilastOf_p b hb, .inl rfl, ?_⟩; conv => whnf) | (refine ACall.pure (ibetween_p _ _ _) rfl ?_; conv => whnf) | (refine AFCall.mk ⟨_, _, ibetween_p _ _ _, .inl rfl, ?_⟩; conv => whnf) | (exact rr) | (refine And.intro rfl ?_; conv => whnf) | (refine AB.mk (fun h => ?_) (fun h => ?_) <;> (conv => whnf)))
  have e : entAt b i = b.entries[k]'hkl := by
    have e2 : (i - b.base - 1).toNat = k := by omega
    simp only [entAt, e2, List.getD_eq_getElem?_getD, List.getElem?_eq_getElem hkl, Option.getD_some]
  rw [e]; rfl
theorem iseenUpTo_p (h : DHead) (b : DBook) (i : Int) (hs : h.seen.length ≤ 9223372036854775806) (h0 : (0 ≤ b.base ∧ b.base ≤ 2000) ∧ b.entries.length ≤ 20) (h1 : b.base ≤ i) (h2 : i ≤ lastB b) : PCall av 329 [.agg h.ds, .agg b.ds, .one (dI i)] (pSeen (seenOver h.seen (entTo b i))) := by
  obtain ⟨k, hk⟩ : ∃ k : Nat, i - b.base = k := ⟨(i - b.base).toNat, by omega⟩
  have hkl : k ≤ b.entries.length := by unfold lastB at h2; omega
  have hlb : lastB b ≤ 3000 := by unfold lastB; omega
  have hx : List.drop 0 (List.take k (b.entries.map DEntry.ds)) = (entTo b i).map DEntry.ds := by
    have e2 : (i - b.base).toNat = k := by omega
    simp only [List.drop_zero, entTo, e2, List.map_take]
  refine pcall_of av_ok Tryz.func329 rfl Tryz.call329 Tryz.ntmps329 (congrArg Array.toList Tryz.results329) fun S => ?_; conv => whnf
  repeat' (first | (refine aw0 ?_) | ((first | refine aw1 ?_ | refine aw2 ?_ | refine aw3 ?_ | refine aw4 ?_ | refine aw5 ?_ | refine aw6 ?_ | refine aw7 ?_ | refine aw8 ?_); conv => whnf) | ((first | refine bT ?_ | refine bF ?_); conv => whnf) | (refine AWP.drawK av_ok 1 12 dk_WB9_impl_seenUpTo_1 fk_WB9_impl_seenUpTo_1 (by kernel_rfl) (by kernel_rfl) (by kernel_rfl) rfl ?_; conv => whnf) | (refine AW.i64 (by omega) (by omega) ?_; conv => whnf) | (refine ⟨0, k, rfl, hk, Nat.zero_le _, (by simpa using hkl), ?_⟩; conv => whnf) | (refine all_lenW (fun x hx => by obtain ⟨y, _, rfl⟩ := List.mem_map.1 hx; rfl) ?_; conv => whnf; rw [hx]) | (refine ACall.pure (iSeenOver_p h.seen (entTo b i) hs) rfl ?_; conv => whnf) | (refine AFCall.mk ⟨_, _, iSeenOver_p h.seen (entTo b i) hs, .inl rfl, ?_⟩; conv => whnf) | (exact rr) | (refine And.intro rfl ?_; conv => whnf) | (refine AB.mk (fun h => ?_) (fun h => ?_) <;> (conv => whnf)))
theorem nextOk_no {n : DLogNode} (hm : (!n.more) = false) (hb : bookOk n.book = true) (hh : headOk n.head = true) (hbb : n.book.base = n.head.base) (hd : n.book.base ≤ n.durable ∧ n.durable ≤ lastB n.book) (hso : (seenOver n.head.seen n.book.entries).2 = true)
    (h : headOk n.nxt = false ∨ n.nxt.num ≠ n.head.num + 1 ∨ n.nxt.base ≤ n.head.base ∨ n.durable < n.nxt.base) : nextOkB n = false := by
  rw [nextOk_in hm, ← Bool.not_eq_true]
  simp only [Bool.and_eq_true, betweenB, decide_eq_true_eq]
  rintro ⟨⟨h1, h2⟩, h3⟩
  rcases h with h | h | h | h
  · have := next_headOk hb hh hbb hso h1 (by omega)
    rw [← h3, h] at this
    cases this
  · exact h (congrArg DHead.num h3)
  · omega
  · omega
theorem nextOk_yes {n : DLogNode} (hm : (!n.more) = false) (h1 : n.nxt.num = n.head.num + 1) (h2 : ¬ n.nxt.base ≤ n.head.base) (h3 : ¬ n.nxt.base > n.durable) : nextOkB n = ((n.nxt.time == (entAt n.book n.nxt.base).time) && decide (n.nxt.seen = (seenOver n.head.seen (entTo n.book n.nxt.base)).1)) := by
  have hbt : betweenB n.nxt.base (n.head.base + 1) n.durable = true := bt_in (by omega) (by omega)
  rw [nextOk_in hm, hbt, Bool.true_and, Bool.eq_iff_iff]
  simp only [decide_eq_true_eq, Bool.and_eq_true, beq_iff_eq, head_eq, nextHead, entAt, entry0, h1, true_and]
set_option maxHeartbeats 1000000 in
theorem inextOk_p (n : DLogNode) (hb : bookOk n.book = true) (hh : headOk n.head = true) (hbb : n.book.base = n.head.base) (hd : n.book.base ≤ n.durable ∧ n.durable ≤ lastB n.book) (hso : (seenOver n.head.seen n.book.entries).2 = true) (hhs : n.head.seen.length ≤ 9223372036854775806) (hx : n.nxt.seen.length ≤ 9223372036854775806) : PCall av 278 [.agg n.ds] (rB (nextOkB n)) := by
  have hq := head_bounds hh
  have hp := book_parts hb
  have hl := book_last hb
  refine pcall_of av_ok Tryz.func278 rfl Tryz.call278 Tryz.ntmps278 (congrArg Array.toList Tryz.results278) fun S => ?_; conv => whnf
  repeat' (first | (refine aw0 ?_) | ((first | refine aw1 ?_ | refine aw2 ?_ | refine aw3 ?_ | refine aw4 ?_ | refine aw5 ?_ | refine aw6 ?_ | refine aw7 ?_ | refine aw8 ?_); conv => whnf) | ((first | refine bT ?_ | refine bF ?_); conv => whnf) | (refine AW.i64 (by omega) (by omega) ?_; conv => whnf) | (refine ACall.pure (isameHead_p n.nxt head0 hx) rfl ?_; conv => whnf) | (refine AFCall.mk ⟨_, _, isameHead_p n.nxt head0 hx, .inl rfl, ?_⟩; conv => whnf) | (refine ACall.pure (iHeadOk_p n.nxt hx) rfl ?_; conv => whnf) | (refine AFCall.mk ⟨_, _, iHeadOk_p n.nxt hx, .inl rfl, ?_⟩; conv => whnf) | (exact rr) | (refine And.intro rfl ?_; conv => whnf) | (refine AB.mk (fun h => ?_) (fun h => ?_) <;> (conv => whnf)))
  · exact congrArg rB (nextOk_down h)
  all_goals first
    | (rw [nextOk_no (by assumption) hb hh hbb hd hso (.inl (by simpa using h))]; done)
    | (rw [nextOk_no (by assumption) hb hh hbb hd hso (.inr (.inl (by simpa using h)))]; done)
    | (rw [nextOk_no (by assumption) hb hh hbb hd hso (.inr (.inr (.inl (by simpa using h))))]; done)
    | (rw [nextOk_no (by assumption) hb hh hbb hd hso (.inr (.inr (.inr (by simpa using h))))]; done)
    | skip
  have hm : (!n.more) = false := by assumption
  have g1 : n.nxt.num = n.head.num + 1 := by
    have : (n.nxt.num != n.head.num + 1) = false := by assumption
    simpa using this
  have g2 : ¬ n.nxt.base ≤ n.head.base := by
    have : decide (n.nxt.base ≤ n.head.base) = false := by assumption
    simpa using this
  have g3 : ¬ n.nxt.base > n.durable := by simpa using h
  repeat' (first | (refine aw0 ?_) | ((first | refine aw1 ?_ | refine aw2 ?_ | refine aw3 ?_ | refine aw4 ?_ | refine aw5 ?_ | refine aw6 ?_ | refine aw7 ?_ | refine aw8 ?_); conv => whnf) | ((first | refine bT ?_ | refine bF ?_); conv => whnf) | (refine ACall.pure (iEntryAt_p n.book n.nxt.base hb (by omega) (by omega)) rfl ?_; conv => whnf) | (refine AFCall.mk ⟨_, _, iEntryAt_p n.book n.nxt.base hb (by omega) (by omega), .inl rfl, ?_⟩; conv => whnf) | (refine ACall.pure (iseenUpTo_p n.head n.book n.nxt.base hhs ⟨hp.1, hp.2.2.1⟩ (by omega) (by omega)) rfl ?_; conv => whnf) | (refine AFCall.mk ⟨_, _, iseenUpTo_p n.head n.book n.nxt.base hhs ⟨hp.1, hp.2.2.1⟩ (by omega) (by omega), .inl rfl, ?_⟩; conv => whnf) | (refine ACall.pure (iSameSeen_p n.nxt.seen (seenOver n.head.seen (entTo n.book n.nxt.base)).1 hx) rfl ?_; conv => whnf) | (refine AFCall.mk ⟨_, _, iSameSeen_p n.nxt.seen (seenOver n.head.seen (entTo n.book n.nxt.base)).1 hx, .inl rfl, ?_⟩; conv => whnf) | (exact rr) | (refine And.intro rfl ?_; conv => whnf) | (refine AB.mk (fun h => ?_) (fun h => ?_) <;> (conv => whnf)))
  all_goals
    refine rB_of ?_
    rw [nextOk_yes hm g1 g2 g3]
    simp_all
theorem two_eq {a b : DTwo} : a = b ↔ (a.a = b.a ∧ a.b = b.b) := by
  cases a; cases b; simp [DTwo.mk.injEq]
theorem log_eq {a b : DLogNode} : a = b ↔ (a.two.a = b.two.a ∧ a.two.b = b.two.b ∧ a.head = b.head ∧ a.nxt = b.nxt ∧ a.more = b.more ∧ a.book = b.book ∧ a.seen = b.seen ∧ a.durable = b.durable ∧ a.owe = b.owe) := by
  cases a; cases b
  simp [DLogNode.mk.injEq, two_eq, and_assoc]
/-- What of a log's rows and lists is not too long. -/
structure LogSmall (n : DLogNode) : Prop where
  a1 : n.two.a.kept.length ≤ 9223372036854775806
  a2 : ∀ y ∈ n.two.a.kept, y.length ≤ 9223372036854775806
  a3 : n.two.a.wait.length ≤ 9223372036854775806
  a4 : ∀ y ∈ n.two.a.wait, y.row.length ≤ 9223372036854775806
  b1 : n.two.b.kept.length ≤ 9223372036854775806
  b2 : ∀ y ∈ n.two.b.kept, y.length ≤ 9223372036854775806
  b3 : n.two.b.wait.length ≤ 9223372036854775806
  b4 : ∀ y ∈ n.two.b.wait, y.row.length ≤ 9223372036854775806
  head : n.head.seen.length ≤ 9223372036854775806
  nxt : n.nxt.seen.length ≤ 9223372036854775806
  book : n.book.entries.length ≤ 9223372036854775806
  seen : n.seen.length ≤ 9223372036854775806
  owe : n.owe.length ≤ 9223372036854775806
set_option maxHeartbeats 1000000 in
theorem iSameLog_p (a b : DLogNode) (hs : LogSmall a) : PCall av 215 [.agg a.ds, .agg b.ds] (rB (decide (a = b))) := by
  refine pcall_of av_ok Tryz.func215 rfl Tryz.call215 Tryz.ntmps215 (congrArg Array.toList Tryz.results215) fun S => ?_; conv => whnf
  repeat' (first | (refine aw0 ?_) | ((first | refine aw1 ?_ | refine aw2 ?_ | refine aw3 ?_ | refine aw4 ?_ | refine aw5 ?_ | refine aw6 ?_ | refine aw7 ?_ | refine aw8 ?_); conv => whnf) | ((first | refine bT ?_ | refine bF ?_); conv => whnf) | (refine ACall.pure (isameDisk_p a.two.a b.two.a hs.a1 hs.a2 hs.a3 hs.a4) rfl ?_; conv => whnf) | (refine AFCall.mk ⟨_, _, isameDisk_p a.two.a b.two.a hs.a1 hs.a2 hs.a3 hs.a4, .inl rfl, ?_⟩; conv => whnf) | (refine ACall.pure (isameDisk_p a.two.b b.two.b hs.b1 hs.b2 hs.b3 hs.b4) rfl ?_; conv => whnf) | (refine AFCall.mk ⟨_, _, isameDisk_p a.two.b b.two.b hs.b1 hs.b2 hs.b3 hs.b4, .inl rfl, ?_⟩; conv => whnf) | (refine ACall.pure (isameHead_p a.head b.head hs.head) rfl ?_; conv => whnf) | (refine AFCall.mk ⟨_, _, isameHead_p a.head b.head hs.head, .inl rfl, ?_⟩; conv => whnf) | (refine ACall.pure (isameHead_p a.nxt b.nxt hs.nxt) rfl ?_; conv => whnf) | (refine AFCall.mk ⟨_, _, isameHead_p a.nxt b.nxt hs.nxt, .inl rfl, ?_⟩; conv => whnf) | (refine ACall.pure (iSameBook_p a.book b.book hs.book) rfl ?_; conv => whnf) | (refine AFCall.mk ⟨_, _, iSameBook_p a.book b.book hs.book, .inl rfl, ?_⟩; conv => whnf) | (refine ACall.pure (iSameSeen_p a.seen b.seen hs.seen) rfl ?_; conv => whnf) | (refine AFCall.mk ⟨_, _, iSameSeen_p a.seen b.seen hs.seen, .inl rfl, ?_⟩; conv => whnf) | (refine ACall.pure (slEqAck_p a.owe b.owe hs.owe) rfl ?_; conv => whnf) | (refine AFCall.mk ⟨_, _, slEqAck_p a.owe b.owe hs.owe, .inl rfl, ?_⟩; conv => whnf) | (exact rr) | (refine And.intro rfl ?_; conv => whnf) | (refine AB.mk (fun h => ?_) (fun h => ?_) <;> (conv => whnf)))
  all_goals
    refine rB_of ?_
    rw [Bool.eq_iff_iff]
    simp only [decide_eq_true_iff, log_eq]
    simp_all
/-- What the program owes: shown in its own text. -/
def OwedP : Prop := ∀ (b : DBook) (d : Int), bookOk b = true → b.base ≤ d → d ≤ lastB b → PCall av 280 [.agg b.ds, .one (dI d)] (.val (.one (.sl (((entAfter b d).map ackOf).map DAck.ds))))
set_option maxHeartbeats 1000000 in
theorem iLogOk_p (how : OwedP) (n : DLogNode) (hs : LogSmall n) : PCall av 213 [.agg n.ds] (rB (logOk n)) := by
  refine pcall_of av_ok Tryz.func213 rfl Tryz.call213 Tryz.ntmps213 (congrArg Array.toList Tryz.results213) fun S => ?_; conv => whnf
  repeat' (first | (refine aw0 ?_) | ((first | refine aw1 ?_ | refine aw2 ?_ | refine aw3 ?_ | refine aw4 ?_ | refine aw5 ?_ | refine aw6 ?_ | refine aw7 ?_ | refine aw8 ?_); conv => whnf) | ((first | refine bT ?_ | refine bF ?_); conv => whnf) | (refine ACall.pure (iKeptOk_p n.two) rfl ?_; conv => whnf) | (refine AFCall.mk ⟨_, _, iKeptOk_p n.two, .inl rfl, ?_⟩; conv => whnf) | (refine ACall.pure (iHeadOk_p n.head hs.head) rfl ?_; conv => whnf) | (refine AFCall.mk ⟨_, _, iHeadOk_p n.head hs.head, .inl rfl, ?_⟩; conv => whnf) | (refine ACall.pure (iBookOk_p n.book) rfl ?_; conv => whnf) | (refine AFCall.mk ⟨_, _, iBookOk_p n.book, .inl rfl, ?_⟩; conv => whnf) | (refine ACall.pure (iSeenOver_p n.head.seen n.book.entries hs.head) rfl ?_; conv => whnf) | (refine AFCall.mk ⟨_, _, iSeenOver_p n.head.seen n.book.entries hs.head, .inl rfl, ?_⟩; conv => whnf) | (exact rr) | (refine And.intro rfl ?_; conv => whnf) | (refine AB.mk (fun h => ?_) (fun h => ?_) <;> (conv => whnf)))
  all_goals first
    | (have hno : logP1 n = false := by simp_all [logP1]
       rw [logOk_1 hno]; done)
    | skip
  have h1 : logP1 n = true := by simp_all [logP1]
  obtain ⟨hk, hh, hb, hbb, htt⟩ := log_p1 h1
  have hq := head_bounds hh
  have hp := book_parts hb
  have hl := book_last hb
  have hsv : (seenOver n.head.seen n.book.entries).1.length ≤ 9223372036854775806 := Nat.le_trans (over_small hq.2.2) (by decide)
  repeat' (first | (refine aw0 ?_) | ((first | refine aw1 ?_ | refine aw2 ?_ | refine aw3 ?_ | refine aw4 ?_ | refine aw5 ?_ | refine aw6 ?_ | refine aw7 ?_ | refine aw8 ?_); conv => whnf) | ((first | refine bT ?_ | refine bF ?_); conv => whnf) | (refine AWP.drawK av_ok 4 18 dk_WB9_impl_LogOk_4 fk_WB9_impl_LogOk_4 (by kernel_rfl) (by kernel_rfl) (by kernel_rfl) rfl ?_; conv => whnf) | (refine ACall.pure (iSameSeen_p (seenOver n.head.seen n.book.entries).1 n.seen hsv) rfl ?_; conv => whnf) | (refine AFCall.mk ⟨_, _, iSameSeen_p (seenOver n.head.seen n.book.entries).1 n.seen hsv, .inl rfl, ?_⟩; conv => whnf) | (refine ACall.pure (ilastOf_p n.book hb) rfl ?_; conv => whnf) | (refine AFCall.mk ⟨_, _, ilastOf_p n.book hb, .inl rfl, ?_⟩; conv => whnf) | (refine ACall.pure (ibetween_p _ _ _) rfl ?_; conv => whnf) | (refine AFCall.mk ⟨_, _, ibetween_p _ _ _, .inl rfl, ?_⟩; conv => whnf) | (exact rr) | (refine And.intro rfl ?_; conv => whnf) | (refine AB.mk (fun h => ?_) (fun h => ?_) <;> (conv => whnf)))
  all_goals first
    | (rw [logOk_2 (p2_a h)]; done)
    | (rw [logOk_2 (p2_b h)]; done)
    | (rw [logOk_2 (p2_c h)]; done)
    | skip
  have h2 : logP2 n = true := p2_y (by assumption) (by assumption) (by assumption)
  have hd := dur_of h
  have hso : (seenOver n.head.seen n.book.entries).2 = true := by
    have : (!(seenOver n.head.seen n.book.entries).snd) = false := by assumption
    rwa [Bool.not_eq_false'] at this
  repeat' (first | (refine aw0 ?_) | ((first | refine aw1 ?_ | refine aw2 ?_ | refine aw3 ?_ | refine aw4 ?_ | refine aw5 ?_ | refine aw6 ?_ | refine aw7 ?_ | refine aw8 ?_); conv => whnf) | ((first | refine bT ?_ | refine bF ?_); conv => whnf) | (refine AWP.drawK av_ok 6 10 dk_WB9_impl_LogOk_6 fk_WB9_impl_LogOk_6 (by kernel_rfl) (by kernel_rfl) (by kernel_rfl) rfl ?_; conv => whnf) | (refine ACall.pure (inextOk_p n hb hh hbb hd hso hs.head hs.nxt) rfl ?_; conv => whnf) | (refine AFCall.mk ⟨_, _, inextOk_p n hb hh hbb hd hso hs.head hs.nxt, .inl rfl, ?_⟩; conv => whnf) | (refine ACall.pure (how n.book n.durable hb hd.1 hd.2) rfl ?_; conv => whnf) | (refine AFCall.mk ⟨_, _, how n.book n.durable hb hd.1 hd.2, .inl rfl, ?_⟩; conv => whnf) | (refine ACall.pure (slEqAck_p n.owe ((entAfter n.book n.durable).map ackOf) hs.owe) rfl ?_; conv => whnf) | (refine AFCall.mk ⟨_, _, slEqAck_p n.owe ((entAfter n.book n.durable).map ackOf) hs.owe, .inl rfl, ?_⟩; conv => whnf) | (exact rr) | (refine And.intro rfl ?_; conv => whnf) | (refine AB.mk (fun h => ?_) (fun h => ?_) <;> (conv => whnf)))
  all_goals
    refine rB_of ?_
    simp only [logOk_eq, h1, h2, Bool.true_and]
    simp_all
end Go.Proofs.YtmgcnmdbhahhlaaGreat
