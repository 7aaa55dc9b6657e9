/- The invariant, kept. No condition. -/
import Derived.Test.YtbopalmbphgedaaJumpN
namespace Go.Proofs.Ytbopalmbphgedaa
open Go Go.RowKit
set_option linter.unusedVariables false
set_option linter.unusedSimpArgs false
set_option linter.unnecessarySimpa false

theorem ds_succ {l : List Ins} {i k : Nat} (h : i < k) : ds l (i + 1) (k + 1 - (i + 1)) = ds l (i + 1) (k - (i + 1)) + dl (l.getD k default).op := by
  rw [show k + 1 - (i + 1) = (k - (i + 1)) + 1 by omega, ds, show i + 1 + (k - (i + 1)) = k by omega]
theorem els_succ {l : List Ins} {i k : Nat} (h : i < k) : rElses l (k + 1 - (i + 1)) (i + 1) 0 = rElses l (k - (i + 1)) (i + 1) 0 ++ (if (l.getD k default).op = 5 ∧ ds l (i + 1) (k - (i + 1)) + dl (l.getD k default).op = 0 then [(k : Int)] else []) := by
  rw [show k + 1 - (i + 1) = (k - (i + 1)) + 1 by omega, rElses_snoc, ds, show i + 1 + (k - (i + 1)) = k by omega, Int.zero_add]
theorem OpI.ext {l : List Ins} {k : Nat} {s s' : JS} {i p : Nat} (h : OpI l k s i p) (hk : i < k) (he : rd s'.en i = rd s.en i) (hl : rd s'.el i = rd s.el i) (ho : rd s'.op i = rd s.op i) (hp : s'.opn.getD p default = s.opn.getD p default) (hlen : (s'.opn.length : Int) = s.opn.length + dl (l.getD k default).op) (hp2 : p < s'.opn.length) (hx : (l.getD k default).op ≠ 5 ∨ p + 1 < s'.opn.length) : OpI l (k + 1) s' i p := by
  obtain ⟨h1, h2, h3, h4, h5, h6, h7, h8⟩ := h
  have hd := ds_succ (l := l) hk
  refine ⟨hp2, hp.trans h2, by rw [hd]; omega, fun j hj0 hj => ?_, he.trans h5, ?_, ?_, ho.trans h8⟩
  · by_cases hjk : j ≤ k - (i + 1)
    · exact h4 j hj0 hjk
    · have e : j = k + 1 - (i + 1) := by omega
      subst e
      rw [hd]; omega
  · rw [hl, h6, els_succ hk, if_neg (by omega), List.append_nil]
  · rw [els_succ hk, if_neg (by omega), List.append_nil]; exact h7
theorem ClI.ext {l : List Ins} {k : Nat} {s s' : JS} {i : Nat} (h : ClI l k s i) (he : rd s'.en i = rd s.en i) (hl : rd s'.el i = rd s.el i) (ho : rd s'.op i = rd s.op i) : ClI l (k + 1) s' i := by
  obtain ⟨e, h1, h2, h3, h4, h5, h6⟩ := h
  exact ⟨e, h1, by omega, h3, he.trans h4, hl.trans h5, ho.trans h6⟩
theorem ElI.ext {l : List Ins} {k : Nat} {s s' : JS} {i : Nat} (h : ElI l k s i) (hk : i < k) (he : rd s'.en i = rd s.en i) (hl : rd s'.el i = rd s.el i) (ho : rd s'.op i = rd s.op i)
    (hst : ∀ p (o : Nat), p < s.opn.length → s.opn.getD p default = o → rd s.el o = i → p < s'.opn.length ∧ s'.opn.getD p default = s.opn.getD p default ∧ rd s'.el o = rd s.el o) (hlen : (s'.opn.length : Int) = s.opn.length + dl (l.getD k default).op) : ElI l (k + 1) s' i := by
  obtain ⟨o, h1, h2, h3, h4, h5, h6⟩ := h
  refine ⟨o, h1, h2, h3, hl.trans h4, ho.trans h5, ?_⟩
  rcases h6 with ⟨p, a1, a2, a3, a4, a5, a6⟩ | h6
  · left
    obtain ⟨b1, b2, b3⟩ := hst p o a1 a2 a3
    have hd := ds_succ (l := l) hk
    refine ⟨p, b1, b2.trans a2, b3.trans a3, he.trans a4, by rw [hd]; omega, fun j hj0 hj => ?_⟩
    by_cases hjk : j ≤ k - (i + 1)
    · exact a6 j hj0 hjk
    · have e : j = k + 1 - (i + 1) := by omega
      subst e
      rw [hd]; omega
  · exact .inr (he.trans h6)
theorem inv_opened {l : List Ins} {k : Nat} {s : JS} (h : Inv l k s) (hk : k < l.length) (hx : isOpn (l.getD k default).op) (hok : (s.opened k).Ok l.length) : Inv l (k + 1) (s.opened k) := by
  have hdl : dl (l.getD k default).op = 1 := by unfold dl; rw [if_pos hx]
  have hx5 : (l.getD k default).op ≠ 5 := by unfold isOpn at hx; omega
  have hlen : ((s.opened k).opn.length : Int) = s.opn.length + dl (l.getD k default).op := by rw [hdl]; simp [JS.opened]
  have hopn : ∀ p, p < s.opn.length → (s.opened k).opn.getD p default = s.opn.getD p default := fun p hp => getD_append_lt hp
  have hopl : (s.opened k).opn.length = s.opn.length + 1 := by simp [JS.opened]
  have htop : (s.opened k).opn.getD s.opn.length default = (k : Int) := getD_append_eq
  have hds0 : ds l 0 (k + 1) = ds l 0 k + dl (l.getD k default).op := by rw [ds, Nat.zero_add]
  refine ⟨hok, h.own.opened hx, fun p hp => ?_, fun p q hpq hq => ?_, fun p hp => ?_, ?_, ?_, ?_, ?_, fun i hi hxi => ?_, fun i hi hxi => ?_, fun i hi hxi => ?_, fun i hi h1 h2 h3 => ?_, fun i hi => h.fut i (by omega)⟩
  · by_cases hp' : p < s.opn.length
    · obtain ⟨i, e1, e2, e3⟩ := h.st p hp'
      exact ⟨i, (hopn p hp').trans e1, by omega, e3⟩
    · have : p = s.opn.length := by omega
      subst this
      exact ⟨k, htop, by omega, hx⟩
  · by_cases hq' : q < s.opn.length
    · rw [hopn p (by omega), hopn q hq']; exact h.inc p q hpq hq'
    · have : q = s.opn.length := by omega
      subst this
      rw [htop, hopn p (by omega)]
      obtain ⟨i, e1, e2, e3⟩ := h.st p (by omega)
      omega
  · by_cases hp' : p < s.opn.length
    · rw [hopn p hp']; exact h.no p hp'
    · have : p = s.opn.length := by omega
      subst this
      rw [htop]; exact (h.fut k (Nat.le_refl _)).1
  · rw [hlen, hds0]; have := h.len; omega
  · show 0 ≤ max s.dp _; have := h.dp; omega
  · rw [hopl]; show _ ≤ max s.dp _; omega
  · rw [← h.cl, show l.length - k = (l.length - (k + 1)) + 1 by omega, rCl, hdl, if_neg (by rintro (hb | hb); exact hx5 hb.1; omega), hopl]
    show rCl l _ _ _ (max s.dp _) = _
    congr 1
  · by_cases hik : i < k
    · rcases h.opn i hik hxi with ⟨p, hp⟩ | hc
      · exact .inl ⟨p, hp.ext hik rfl rfl rfl (hopn p hp.1) hlen (by have := hp.1; omega) (.inl hx5)⟩
      · exact .inr (hc.ext rfl rfl rfl)
    · have : i = k := by omega
      subst this
      obtain ⟨f1, f2, f3⟩ := h.fut i (Nat.le_refl _)
      refine .inl ⟨s.opn.length, by omega, htop, ?_, fun j h0 hj => by omega, f1, ?_, ?_, f3⟩
      · rw [Nat.sub_self, ds, hopl]; omega
      · rw [Nat.sub_self]; exact f2
      · rw [Nat.sub_self]; simp [rElses]
  · have hik : i < k := by
      rcases Nat.lt_or_ge i k with h' | h'
      · exact h'
      · have : i = k := by omega
        subst this; exact absurd hxi hx5
    exact (h.els i hik hxi).ext hik rfl rfl rfl (fun p _ hp _ _ => ⟨by omega, hopn p hp, rfl⟩) hlen
  · have hik : i < k := by
      rcases Nat.lt_or_ge i k with h' | h'
      · exact h'
      · have : i = k := by omega
        subst this; unfold isOpn at hx; omega
    exact h.end_ i hik hxi
  · have hik : i < k := by
      rcases Nat.lt_or_ge i k with h' | h'
      · exact h'
      · have : i = k := by omega
        subst this; exact absurd hx h1
    exact h.oth i hik h1 h2 h3
theorem inv_same {l : List Ins} {k : Nat} {s : JS} (h : Inv l k s) (hk : k < l.length) (h1 : ¬ isOpn (l.getD k default).op) (h2 : (l.getD k default).op ≠ 5) (h3 : (l.getD k default).op ≠ 11) : Inv l (k + 1) s := by
  have hdl : dl (l.getD k default).op = 0 := by unfold dl; rw [if_neg h1, if_neg h3]
  have hlen : (s.opn.length : Int) = s.opn.length + dl (l.getD k default).op := by omega
  have hds0 : ds l 0 (k + 1) = ds l 0 k + dl (l.getD k default).op := by rw [ds, Nat.zero_add]
  have hlt : ∀ i, i < k + 1 → i ≠ k → i < k := fun i a b => by omega
  refine ⟨h.ok, h.own.same h1 h3, fun p hp => ?_, h.inc, h.no, ?_, h.dp, h.ld, ?_, fun i hi hxi => ?_, fun i hi hxi => ?_, fun i hi hxi => ?_, fun i hi g1 g2 g3 => ?_, fun i hi => h.fut i (by omega)⟩
  · obtain ⟨i, e1, e2, e3⟩ := h.st p hp
    exact ⟨i, e1, by omega, e3⟩
  · rw [hds0]; have := h.len; omega
  · rw [← h.cl, show l.length - k = (l.length - (k + 1)) + 1 by omega, rCl, hdl, if_neg (by rintro (hb | hb); exact h2 hb.1; omega)]
    have := h.ld
    congr 1
    all_goals omega
  · have hik := hlt i hi (fun e => by subst e; exact h1 hxi)
    rcases h.opn i hik hxi with ⟨p, hp⟩ | hc
    · exact .inl ⟨p, hp.ext hik rfl rfl rfl rfl hlen hp.1 (.inl h2)⟩
    · exact .inr (hc.ext rfl rfl rfl)
  · have hik := hlt i hi (fun e => by subst e; exact h2 hxi)
    exact (h.els i hik hxi).ext hik rfl rfl rfl (fun p _ hp _ _ => ⟨hp, rfl, rfl⟩) hlen
  · have hik := hlt i hi (fun e => by subst e; exact h3 hxi)
    exact h.end_ i hik hxi
  · by_cases hik : i < k
    · exact h.oth i hik g1 g2 g3
    · exact h.fut i (by omega)
theorem rElses_pos (l : List Ins) : ∀ (m i : Nat) (d : Int), ∀ x ∈ rElses l m i d, 0 ≤ x := by
  intro m
  induction m with
  | zero => intro i d x hx; simp [rElses] at hx
  | succ m ih =>
    intro i d x hx
    rw [rElses] at hx
    split at hx
    · rcases List.mem_cons.1 hx with rfl | hx
      · omega
      · exact ih _ _ x hx
    · exact ih _ _ x hx
theorem rElses_nil {l : List Ins} {m i : Nat} {d : Int} (h : (rElses l m i d).headD (-1) = -1) : rElses l m i d = [] := by
  have := rElses_pos l m i d
  cases hL : rElses l m i d with
  | nil => rfl
  | cons a r =>
    rw [hL] at h this
    have := this a (List.mem_cons_self ..)
    simp at h
    omega

end Go.Proofs.Ytbopalmbphgedaa
