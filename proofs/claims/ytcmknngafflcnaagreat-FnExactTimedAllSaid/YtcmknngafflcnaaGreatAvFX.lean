/- AvFX -/
import Derived.Test.YtcmknngafflcnaaGreatJ02
set_option linter.unusedVariables false
set_option linter.unusedSimpArgs false
set_option maxRecDepth 100000
namespace Go.Proofs.YtcmknngafflcnaaGreat
open Go.RowKit
def Bu (lo hi : Nat) (cs ds : List AD) : Prop :=
 cs.length = ds.length ∧ ∃ Q : Nat → Nat → Prop, (∀ i b, Q i b → lo ≤ b ∧ b < hi) ∧ (∀ i j b, Q i b → Q j b → i = j) ∧ ∀ (i : Nat) c d, cs[i]? = some c → ds[i]? = some d → ∀ (Z : Nat → Prop) (w : World) (u : Value), bC Z w c u → bb w (fun b => Q i b ∧ Z b) d u
theorem Bu.fam {lo hi : Nat} {cs ds : List AD} (h : Bu lo hi cs ds) : Fam lo hi cs ds := by
 obtain ⟨hl, Q, q, eQ, rQ⟩ := h
 refine ⟨hl, fun Z w us hu hr => ⟨by rw [hu, hl], fun i b => Q i b ∧ Z b, fun i b h => ⟨(q i b h.1).1, (q i b h.1).2, h.2⟩, fun i j b h h' => eQ i j b h.1 h'.1, fun i a u ha hx => ?_⟩⟩
 have hi : i < cs.length := by rw [hl]; exact (List.getElem?_eq_some_iff.1 ha).1
 exact rQ i cs[i] a (List.getElem?_eq_getElem hi) ha Z w u (hr i _ u (List.getElem?_eq_getElem hi) hx)
theorem Bu.set {lo hi : Nat} {cs ds : List AD} (h : Bu lo hi cs ds) (k : Nat) {d : AD} (hb : d.isBl = true) : Bu lo hi (cs.set k d) (ds.set k d) := by
 obtain ⟨hl, Q, q, eQ, rQ⟩ := h
 refine ⟨by simp [hl], fun i b => i ≠ k ∧ Q i b, fun i b h => q i b h.2, fun i j b h h' => eQ i j b h.2 h'.2, fun i c a hc ha Z w u hr => ?_⟩
 rw [List.getElem?_set] at hc ha
 by_cases hk : k = i
 ·rw [if_pos hk] at hc ha
  split at hc
  ·split at ha
   ·injection hc with hc
    injection ha with ha
    subst hc ha
    exact C9 hb hr
   ·cases ha
  ·cases hc
 ·rw [if_neg hk] at hc ha
  exact (rQ i c a hc ha Z w u hr).mono fun b hb => ⟨⟨fun e => hk e.symm, hb.1⟩, hb.2⟩
section
variable {E : ba} {S : bt}
theorem aa.freshX {f : FuncId} {args : List AV} {tm : List AV} {ob : List (Nat × AO)} {K : AV → ASt → Prop} {ps : List AP1} {res : AP1} {m : Nat} (hc : bk E f ps res) (hps : aRs ob args (· = ps)) (hm : aOb ob 9997 fun o => o = cN S.w0.heap.size m)
  (hk : ∀ R lo hi, m ≤ lo → lo ≤ hi → Bu lo hi (dt R 0 (cj res)) (cj res) → dX 9997 (cN S.w0.heap.size hi) ob fun ob => K (Az R res) ⟨tm, ob⟩) : aa E S f args ⟨tm, ob⟩ K := by
 refine ⟨hc.enter, fun Z ρ a w us hs hl hr => ?_⟩
 obtain ⟨ps', h1, h2, rfl⟩ := fJ hs.ws hl hr hps
 obtain ⟨o, ho, rfl⟩ := bH hm
 have hmark := Al (hs.ws.obj 9997 _ ho)
 have hρ : ρ 9997 = undef := (hs.ws.obj 9997 _ ho).1
 have hmle : m ≤ w.heap.size := by
  rcases hmark with h | ⟨k, e, h⟩
  ·exact Nat.le_trans h hs.ws.size
  ·have := hs.ws.zlt k h; omega
 refine (hc.run (fI Z ρ ob) w us (fI.lt hs.ws) ?_ h1 h2).mono ?_
 ·obtain ⟨w1, g1, g2, g3⟩ := hs.ws.g
  exact ⟨w1, g1, g2, fun b hb => .inl (g3 b hb)⟩
 ·rintro e w' ⟨v, rfl, hb, hv⟩
  have hsz := hb.size
  obtain ⟨us', hf, hvu⟩ : ∃ us', cb w' (fun b => w.heap.size ≤ b ∧ b < w'.heap.size) (cj res) us' ∧ (match res with | .one _ => us' = [v] | .agg _ => v = .agg us'.toArray) := by
   cases res with
   | one d => exact ⟨[v], hv, rfl⟩
   | agg ds => obtain ⟨us', e, h⟩ := hv; exact ⟨us', h, e⟩
  obtain ⟨lF, Q, q, eQ, rQ⟩ := hf
  let R : Nat → (Nat → Prop) → World → Value → Prop := fun i Zx wx u => (∀ b, Q i b → Zx b) ∧ ∃ a, (cj res)[i]? = some a ∧ bb wx (Q i) a u
  let Z' : Nat → Prop := fun b => Z b ∨ (w.heap.size ≤ b ∧ b < w'.heap.size)
  have hg := hs.grow (Z' := Z') (cV hb) (fun b h => .inl h) fun b h => h
  have hcell : ∀ (i : Nat) c u, (dt R 0 (cj res))[i]? = some c → us'[i]? = some u → bC Z' w' c u := by
   intro i c u hc hu
   obtain ⟨d, hd, h⟩ := fU R hc
   have ht := rQ i d u hd hu
   rcases h with ⟨x, rfl, rfl⟩ | h
   ·cases ht with | pv _ _ h1 => exact .pv _ h1
   ·rw [Nat.zero_add] at h
    subst h
    refine .x _ _ ht.one fun Zx wx hzx hbx => ⟨fun b hb => hzx b (.inr (q i b hb)), d, hd, ht.keep fun b hb => hbx b (.inr (q i b hb))⟩
  have hfam : ∀ lo hi : Nat, (∀ b, w.heap.size ≤ b → b < w'.heap.size → lo ≤ b ∧ b < hi) → Bu lo hi (dt R 0 (cj res)) (cj res) := by
   intro lo hi hlh
   refine ⟨cO R _ _, Q, fun i b h => hlh b (q i b h).1 (q i b h).2, eQ, fun i c a hc ha Zx wx u hrel => ?_⟩
   obtain ⟨d, hd, h⟩ := fU R hc
   rw [ha] at hd
   injection hd with hd
   subst hd
   rcases h with ⟨x, e1, e2⟩ | h
   ·rw [e2] at hrel
    rw [e1]
    cases hrel with | pv _ h1 => exact .pv _ _ h1
   ·rw [h, Nat.zero_add] at hrel
    cases hrel with
    | x _ _ h1 hR =>
     obtain ⟨hz, a', ha', ht⟩ := hR Zx wx (fun _ h => h) fun _ _ => rfl
     rw [ha] at ha'
     injection ha' with ha'
     subst ha'
     exact ht.mono fun b hb => ⟨hb, hz b hb⟩
  have hval : bM Z' w' ρ (Az R res) v := by
   cases res with
   | one d =>
    simp only at hvu
    subst hvu
    cases d with
    | pv x => exact .one _ _ (hcell 0 (.pv x) v rfl rfl)
    | sl xs => exact .one _ _ (hcell 0 (.x (R 0)) v rfl rfl)
    | x R' => exact .one _ _ (hcell 0 (.x (R 0)) v rfl rfl)
   | agg ds =>
    simp only at hvu
    subst hvu
    refine .agg _ us' (by rw [List.length_map, cO]; exact lF) fun i c u hc hu => ?_
    rw [List.getElem?_map] at hc
    obtain ⟨d, hd, rfl⟩ := Option.map_eq_some_iff.1 hc
    exact hcell i d u hd hu
  have fin : ∀ hi : Nat, (hi ≤ S.w0.heap.size ∨ ∃ k, hi = k + 1 ∧ Z' k) → Sim E.W S Z' ρ ⟨tm, db ob 9997 (cN S.w0.heap.size hi)⟩ a w' := fun hi h =>
   ⟨hg.ws.reframe (oY hρ h), hg.len, hg.tm, hg.df⟩
  by_cases hlt : w.heap.size < w'.heap.size
  ·refine ⟨v, _, _, Z', ρ, rfl, fin w'.heap.size (.inr ⟨w'.heap.size - 1, by omega, .inr (by omega)⟩), hval, bX (K := fun ob => K (Az R res) ⟨tm, ob⟩) (hk R w.heap.size w'.heap.size hmle hsz (hfam _ _ fun b h1 h2 => ⟨h1, h2⟩))⟩
  ·refine ⟨v, _, _, Z', ρ, rfl, fin m ?_, hval, bX (K := fun ob => K (Az R res) ⟨tm, ob⟩) (hk R m m (Nat.le_refl _) (Nat.le_refl _) (hfam _ _ fun b h1 h2 => by omega))⟩
   rcases hmark with h | ⟨k, e, h⟩
   ·exact .inl h
   ·exact .inr ⟨k, e, .inl h⟩
end
end Go.Proofs.YtcmknngafflcnaaGreat
