/- Running over abstract values is sound: operations that read. -/
import Derived.Test.YtlhanpkfnhnegaaDoorAvD
set_option linter.unusedVariables false
set_option linter.unusedSimpArgs false
set_option maxRecDepth 100000
namespace Go.Proofs.YtlhanpkfnhnegaaDoor
open Go.RowKit

section
variable {E : AEnv} {S : Base} {Z : Nat → Prop} {ρ : Nat → Value} {st : ASt} {a : Act} {w : World} {K : ASt → Prop} {o : Oper}

/-- What an operation owes. -/
def Good (E : AEnv) (S : Base) (o : Oper) (a : Act) (w : World) (K : ASt → Prop) : Prop := ∀ Q, Oper.wp E.P o a w (fun a' w' => ∃ st', SimX E.W S st' a' w' ∧ K st') Q

theorem good_value (h : Sim E.W S Z ρ st a w) {x : AV} {v : Value} (hx : RelV Z w ρ x v) (hr : (execOp a.eval o).run E.P w = .ok (.value v) w) (hk : aDst st o.dst x K) : Good E S o a w K := by
  intro Q
  unfold Oper.wp
  rw [hr]
  exact ⟨_, ⟨Z, ρ, h.put o.dst hx⟩, aDst_put hk⟩

/-- An operation that reads: what it hands back. -/
def Reads (E : AEnv) (Z : Nat → Prop) (ρ : Nat → Value) (o : Oper) (a : Act) (w : World) (K : AV → Prop) : Prop := ∃ x v, RelV Z w ρ x v ∧ (execOp a.eval o).run E.P w = .ok (.value v) w ∧ K x
theorem good_of (h : Sim E.W S Z ρ st a w) (hk : Reads E Z ρ o a w (fun v => aDst st o.dst v K)) : Good E S o a w K := by
  obtain ⟨x, v, hx, hr, hk⟩ := hk
  exact good_value h hx hr hk
theorem good_or (h : Sim E.W S Z ρ st a w) (hk : Reads E Z ρ o a w (fun v => aDst st o.dst v K) ∨ AOp E S o st K) : Good E S o a w K := by
  rcases hk with hk | hk
  · exact good_of h hk
  · exact fun Q => hk.run a w Q ⟨Z, ρ, h⟩

theorem aTI_get {K : TI → Prop} {t : TypeId} (he : E.Ok) (h : aTI E.T t K) : ∃ i, TyFact E.P t i ∧ K i := by
  unfold aTI at h
  split at h
  · rename_i i hi; exact ⟨i, TT.get_ok he.ty hi, h⟩
  · exact h.elim

theorem TyFact.und {P : Program} {t : TypeId} {i : TI} (h : TyFact P t i) : ∃ d, P.underlying t = some d ∧ kindOf d = i.kind := Option.map_eq_some_iff.1 h.kd
theorem TyFact.stf {P : Program} {t : TypeId} {i : TI} (h : TyFact P t i) {fs : List (Nat × TypeId)} (hk : i.kind = .st fs) : ∃ fields, P.underlying t = some (.struct fields) ∧ fields.toList.map (fun f => (f.offset, f.type)) = fs := by
  obtain ⟨d, hd, e⟩ := h.und
  rw [hk] at e
  cases d <;> simp only [kindOf] at e <;> first | (cases e; exact ⟨_, hd, rfl⟩) | cases e
theorem TyFact.sl {P : Program} {t : TypeId} {i : TI} (h : TyFact P t i) {e : TypeId} (hk : i.kind = .sl e) : P.underlying t = some (.slice e) := by
  obtain ⟨d, hd, e1⟩ := h.und
  rw [hk] at e1
  cases d <;> simp only [kindOf] at e1 <;> first | (cases e1; exact hd) | cases e1
theorem TyFact.arr {P : Program} {t : TypeId} {i : TI} (h : TyFact P t i) {n : Nat} {e : TypeId} (hk : i.kind = .arr n e) : P.underlying t = some (.array n e) := by
  obtain ⟨d, hd, e1⟩ := h.und
  rw [hk] at e1
  cases d <;> simp only [kindOf] at e1 <;> first | (cases e1; exact hd) | cases e1
theorem TyFact.str {P : Program} {t : TypeId} {i : TI} (h : TyFact P t i) (hk : i.kind = .str) : P.underlying t = some .string := by
  obtain ⟨d, hd, e1⟩ := h.und
  rw [hk] at e1
  cases d <;> simp only [kindOf] at e1 <;> first | exact hd | cases e1
theorem TyFact.bool {P : Program} {t : TypeId} {i : TI} (h : TyFact P t i) (hk : i.kind = .bool) : P.underlying t = some .bool := by
  obtain ⟨d, hd, e1⟩ := h.und
  rw [hk] at e1
  cases d <;> simp only [kindOf] at e1 <;> first | exact hd | cases e1
theorem TyFact.int {P : Program} {t : TypeId} {i : TI} (h : TyFact P t i) {k : IntKind} (hk : i.kind = .int k) : P.underlying t = some (.int k) := by
  obtain ⟨d, hd, e1⟩ := h.und
  rw [hk] at e1
  cases d <;> simp only [kindOf] at e1 <;> first | (cases e1; exact hd) | cases e1
theorem TyFact.info' {P : Program} {t : TypeId} {i : TI} (h : TyFact P t i) : ∃ j, P.info? t = some j ∧ j.zero = some i.zero ∧ j.size = i.size ∧ j.bytes = i.bytes := by
  obtain ⟨j, hj, e⟩ := Option.map_eq_some_iff.1 h.info
  simp only [Prod.mk.injEq] at e
  exact ⟨j, hj, e.1, e.2.1, e.2.2⟩

theorem relV_ref {id k s off b : Nat} {v : Value} (hb : blkOf (ρ id) = some b) (hv : v = .pointer (some ⟨b, k * s + off, none⟩)) : RelV Z w ρ (.one (.ref id k s off)) v := .one (.ref id k s off) v ⟨b, hb, hv⟩
theorem relV_ptr {cs : List AD} {v : Value} (h : PtrTo Z w cs v) : RelV Z w ρ (.one (.ptr cs)) v := .one (.ptr cs) v h
theorem relV_d {d : AD} {v : Value} (h : RelD Z w d v) : RelV Z w ρ (.one (.d d)) v := .one (.d d) v h
theorem relV_own {id : Nat} {v : Value} (h : v = ρ id) (h1 : v.oneCell' = true) : RelV Z w ρ (.one (.own id)) v := .one (.own id) v ⟨h, h1⟩
theorem relV_pv {v u : Value} (h : RelV Z w ρ (.one (.d (.pv v))) u) : u = v := by
  cases h with
  | one _ _ h => cases h; rfl
theorem relV_of_pv {v : Value} (h : v.oneCell' = true) : RelV Z w ρ (.one (.d (.pv v))) v := .one _ _ (.pv v h)

theorem reads_move {K : AV → Prop} (h : Sim E.W S Z ρ st a w) {x : Operand} (ho : o.op = .move x ∨ o.op = .assign x) (hk : aEv st x K) : Reads E Z ρ o a w K := by
  obtain ⟨v, hv, hk⟩ := aEv_get h hk
  refine ⟨_, _, hv, ?_, hk⟩
  rcases ho with ho | ho <;> simp [execOp, ho]

theorem aBool_get {v : AV} {X Y : Prop} {u : Value} (hv : RelV Z w ρ v u) (h : aBool v X Y) : ∃ p, u = .bool p ∧ (p = true → X) ∧ (p = false → Y) := by
  unfold aBool at h
  split at h
  · rename_i p; exact ⟨p, relV_pv hv, h.t, h.f⟩
  · exact h.elim

theorem reads_pick {K : AV → Prop} (h : Sim E.W S Z ρ st a w) {c x y : Operand} (ho : o.op = .pick c x y)
    (hk : aEv st c fun c => aBool c (aEv st x K) (aEv st y K)) : Reads E Z ρ o a w K := by
  obtain ⟨v, hv, hk⟩ := aEv_get h hk
  obtain ⟨p, hp, h1, h2⟩ := aBool_get hv hk
  cases p with
  | true =>
    obtain ⟨u, hu, hk⟩ := aEv_get h (h1 rfl)
    refine ⟨_, _, hu, ?_, hk⟩
    simp [execOp, ho, hp, asBool]
  | false =>
    obtain ⟨u, hu, hk⟩ := aEv_get h (h2 rfl)
    refine ⟨_, _, hu, ?_, hk⟩
    simp [execOp, ho, hp, asBool]

theorem aInts_get {op : BinOp} {k : IntKind} {x y : Int} {K : AV → Prop} (h : aInts op k x y K) : ∃ v, v.oneCell' = true ∧ (∀ t, (binOp op t (.int k x) (.int k y)).run E.P w = .ok v w) ∧ K (.one (.d (.pv v))) := by
  cases op <;> simp only [aInts] at h <;> try exact h.elim
  case add => obtain ⟨c, rfl, hk⟩ := h.h; exact ⟨_, rfl, fun t => by simp [binOp, Op.intArith], hk⟩
  case sub => obtain ⟨c, rfl, hk⟩ := h.h; exact ⟨_, rfl, fun t => by simp [binOp, Op.intArith], hk⟩
  case mul => obtain ⟨c, rfl, hk⟩ := h.h; exact ⟨_, rfl, fun t => by simp [binOp, Op.intArith], hk⟩
  case quo => obtain ⟨c, rfl, hk⟩ := h.2.h; exact ⟨_, rfl, fun t => by simp [binOp, Op.intDiv, h.1], hk⟩
  case rem => exact ⟨_, rfl, fun t => by simp [binOp, Op.intDiv, h.1], h.2⟩
  all_goals exact ⟨_, rfl, fun t => by simp [binOp, Op.intCmp], h⟩
theorem aStrs_get {op : BinOp} {x y : ByteArray} {K : AV → Prop} (h : aStrs op x y K) : ∃ v, v.oneCell' = true ∧ (∀ t, (binOp op t (.string x) (.string y)).run E.P w = .ok v w) ∧ K (.one (.d (.pv v))) := by
  cases op <;> simp only [aStrs] at h <;> try exact h.elim
  case add =>
    refine ⟨_, rfl, fun t => ?_, h.2⟩
    have : ¬ ((x.size + y.size : Nat) : Int) > IntKind.i64.max := by rw [IntKind.max_i64]; omega
    simp only [binOp, Op.stringOp, if_neg this]
    rfl
  case eql => exact ⟨_, rfl, fun t => by simp [binOp, Op.stringOp], h⟩
  case neq => exact ⟨_, rfl, fun t => by simp [binOp, Op.stringOp], h⟩

theorem eqGuard_one {op : BinOp} {t : TypeId} {x y : Operand} {u v : Value} (hu : match u with | .int .. | .string _ | .bool _ => true | _ => false) : eqGuard op t x y u v = pure () := by
  cases u <;> simp at hu <;> cases op <;> rfl

theorem reads_bin {K : AV → Prop} {F : Prop} (he : E.Ok) (h : Sim E.W S Z ρ st a w) {op : BinOp} {t t2 : TypeId} {x y : Operand} (ho : o.op = .binOp op t x y t2)
    (hk : aEv st x fun x => aEv st y fun y => aBin E op t x y F K) : Reads E Z ρ o a w K ∨ F := by
  obtain ⟨vx, hx, hk⟩ := aEv_get h hk
  obtain ⟨vy, hy, hk⟩ := aEv_get h hk
  unfold aBin at hk
  split at hk
  · rename_i k m k' n
    split at hk
    · rename_i e
      have e := aSameK_eq e
      subst e
      have e1 := relV_pv hx
      have e2 := relV_pv hy
      obtain ⟨v, h1, h2, hk⟩ := aInts_get (E := E) (w := w) hk
      refine .inl ⟨_, _, (relV_of_pv h1), ?_, hk⟩
      simp only [execOp, ho, e1, e2]
      rw [eqGuard_one (by rfl)]
      simp [h2]
    · exact hk.elim
  · have e1 := relV_pv hx
    have e2 := relV_pv hy
    obtain ⟨v, h1, h2, hk⟩ := aStrs_get (E := E) (w := w) hk
    refine .inl ⟨_, _, (relV_of_pv h1), ?_, hk⟩
    simp only [execOp, ho, e1, e2]
    rw [eqGuard_one (by rfl)]
    simp [h2]
  · have e1 := relV_pv hx
    have e2 := relV_pv hy
    obtain ⟨i, hi, hk⟩ := aTI_get he hk
    split at hk
    · rename_i hb
      have hu := hi.bool hb
      cases op <;> simp only [aBools] at hk <;> try exact hk.elim
      · refine .inl ⟨_, _, (relV_of_pv rfl), ?_, hk⟩
        simp only [execOp, ho, e1, e2]
        rw [eqGuard_one (by rfl)]
        simp [run_eql_bool _ _ _ _ hu]
      · refine .inl ⟨_, _, (relV_of_pv rfl), ?_, hk⟩
        simp only [execOp, ho, e1, e2]
        rw [eqGuard_one (by rfl)]
        simp [run_neq_bool _ _ _ _ hu]
    · exact hk.elim
  · exact .inr hk

theorem reads_un {K : AV → Prop} {F : Prop} (h : Sim E.W S Z ρ st a w) {op : UnOp} {t : TypeId} {x : Operand} (ho : o.op = .unOp op t x)
    (hk : aEv st x fun x => aUn op x F K) : Reads E Z ρ o a w K ∨ F := by
  obtain ⟨vx, hx, hk⟩ := aEv_get h hk
  unfold aUn at hk
  split at hk
  · have e := relV_pv hx
    refine .inl ⟨_, _, (relV_of_pv rfl), ?_, hk⟩
    simp [execOp, ho, e, Op.unary]
  · have e := relV_pv hx
    obtain ⟨c, rfl, hk⟩ := hk.h
    refine .inl ⟨_, _, (relV_of_pv rfl), ?_, hk⟩
    simp [execOp, ho, e, Op.unary, Op.intArith]
  · exact .inr hk

theorem reads_conv {K : AV → Prop} {F : Prop} (he : E.Ok) (h : Sim E.W S Z ρ st a w) {s d : TypeId} {x : Operand} (ho : o.op = .convert s d x)
    (hk : aEv st x fun x => aConv E s d x F K) : Reads E Z ρ o a w K ∨ F := by
  obtain ⟨vx, hx, hk⟩ := aEv_get h hk
  unfold aConv at hk
  split at hk
  · have e := relV_pv hx
    obtain ⟨i, hi, hk⟩ := aTI_get he hk
    obtain ⟨j, hj, hk⟩ := aTI_get he hk
    split at hk
    · rename_i k hkk
      obtain ⟨ds, hds, _⟩ := hi.und
      have hd := hj.int hkk
      obtain ⟨c, rfl, hk⟩ := hk.h
      refine .inl ⟨_, _, (relV_of_pv rfl), ?_, hk⟩
      simp [execOp, ho, e, convert, run_underlying hds, run_underlying hd, Conv.intToInt]
    · exact .inr hk
  · exact .inr hk

theorem run_fieldPlace {P : Program} {b off : Nat} {fl : Field} {s : Nat} (w : World) (hs : ∀ w, (sizeOf fl.type).run P w = .ok s w) (h0 : s ≠ 0) : (fieldPlace ⟨b, off, none⟩ fl).run P w = .ok ⟨b, off + fl.offset, none⟩ w := by
  unfold fieldPlace
  simp only [Sem.run_bind, hs, Result.andThen_ok, if_neg h0]
  simp [Addr.add]

theorem reads_fieldAddr {K : AV → Prop} (he : E.Ok) (h : Sim E.W S Z ρ st a w) {t : TypeId} {x : Operand} {f : Nat} (ho : o.op = .fieldAddr t x f)
    (hk : aEv st x fun x => aFieldAddr E t x f K) : Reads E Z ρ o a w K := by
  obtain ⟨vx, hx, hk⟩ := aEv_get h hk
  obtain ⟨i, hi, hk⟩ := aTI_get he hk
  split at hk
  · rename_i fs hfs
    obtain ⟨fields, hu, hf⟩ := hi.stf hfs
    obtain ⟨p, hp, hk⟩ := aNth_get hk
    obtain ⟨j, hj, hk⟩ := aTI_get he hk
    rw [← hf, List.getElem?_map] at hp
    obtain ⟨fl, hfl, rfl⟩ := Option.map_eq_some_iff.1 hp
    have hfl' : fields[f]? = some fl := by simpa using hfl
    split at hk
    · exact hk.elim
    · rename_i n hn
      have run : ∀ b off, a.eval x = .pointer (some ⟨b, off, none⟩) → (execOp a.eval o).run E.P w = .ok (.value (.pointer (some ⟨b, off + fl.offset, none⟩))) w := by
        intro b off e
        have := run_fieldPlace (P := E.P) (b := b) (off := off) (fl := fl) w hj.sz (by omega)
        simp [execOp, ho, e, Instr.fieldAt, run_underlying hu, hfl', Instr.sureAddr, this]
      split at hk
      · cases hx with
        | one _ _ hx =>
          obtain ⟨b, hb, e⟩ := hx
          refine ⟨_, _, (relV_ref hb ?_), (run _ _ e), hk⟩
          rw [Nat.add_assoc]
      · cases hx with
        | one _ _ hx =>
          obtain ⟨b, off, us, e, hZ, hl, hc, hd⟩ := hx
          obtain ⟨hle, hk⟩ := aDrop_get hk
          refine ⟨_, _, (relV_ptr ⟨b, off + fl.offset, us.drop fl.offset, rfl, hZ, by simp [hl], fun i u hu => ?_, fun i x u h1 h2 => ?_⟩), (run _ _ e), hk⟩
          · rw [List.getElem?_drop] at hu
            rw [Nat.add_assoc]
            exact hc _ u hu
          · rw [List.getElem?_drop] at h1 h2
            exact hd _ x u h1 h2
      · exact hk.elim
  · exact hk.elim

/-- Reading a variable whose cells are known. -/
theorem run_loadVar_cells {t : TypeId} {i : TI} (hi : TyFact E.P t i) {b off : Nat} {us : List Value} (hc : ∀ j u, us[j]? = some u → w.cell? ⟨b, off + j, none⟩ = some u)
    {cs : List AC} (hl : us.length = cs.length) (hr : ∀ (j : Nat) c u, cs[j]? = some c → us[j]? = some u → RelC Z w ρ c u) {K : AV → Prop} (hk : aVal i cs K) :
    ∃ x v, (loadVar t ⟨b, off, none⟩).run E.P w = .ok v w ∧ RelV Z w ρ x v ∧ K x := by
  unfold aVal at hk
  unfold loadVar
  split at hk
  · rename_i hg
    obtain ⟨hle, hk⟩ := aTake_get hk
    refine ⟨_, _, ?_, .agg _ (us.take i.size) (by simp [hl]) fun j c u h1 h2 => ?_, hk⟩
    · have hlen : (us.take i.size).length = i.size := by simp; omega
      have := run_loadCells_list (P := E.P) w ⟨b, off, none⟩ (us.take i.size) (fun j u hu => by
        have hadd : (⟨b, off, none⟩ : Addr).add j = ⟨b, off + j, none⟩ := by unfold Addr.add; split <;> simp_all
        rw [hadd]
        rw [List.getElem?_take] at hu
        split at hu
        · exact hc j u hu
        · cases hu)
      rw [hlen] at this
      simp only [Sem.run_bind, hi.ag, hg, Result.andThen_ok, if_true, hi.sz, this, Sem.run_pure]
    · rw [List.getElem?_take] at h1 h2
      split at h1
      · rename_i hlt; rw [if_pos hlt] at h2; exact hr j c u h1 h2
      · cases h1
  · rename_i hg
    split at hk
    · rename_i c r
      cases us with
      | nil => simp at hl
      | cons u us =>
        refine ⟨_, u, ?_, .one _ _ (hr 0 c u rfl rfl), hk⟩
        have := hc 0 u rfl
        simp only [Nat.add_zero] at this
        simp [hi.ag, hg, this]
    · exact hk.elim
end
end Go.Proofs.YtlhanpkfnhnegaaDoor
