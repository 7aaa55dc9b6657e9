/- The invariant, in the end. No condition. -/
import Derived.Test.YtbopalmbphgedaaJumpO
namespace Go.Proofs.Ytbopalmbphgedaa
open Go Go.RowKit
set_option linter.unusedVariables false
set_option linter.unusedSimpArgs false
set_option linter.unnecessarySimpa false

theorem rElses_mem (l : List Ins) : ∀ (m i : Nat) (d : Int), ∀ x ∈ rElses l m i d, ∃ j : Nat, x = j ∧ i ≤ j ∧ j < i + m ∧ (l.getD j default).op = 5 ∧ d + ds l i (j + 1 - i) = 0 := by
  intro m
  induction m with
  | zero => intro i d x hx; simp [rElses] at hx
  | succ m ih =>
    intro i d x hx
    rw [rElses] at hx
    have key : x ∈ rElses l m (i + 1) (d + dl (l.getD i default).op) → ∃ j : Nat, x = j ∧ i ≤ j ∧ j < i + (m + 1) ∧ (l.getD j default).op = 5 ∧ d + ds l i (j + 1 - i) = 0 := by
      intro hx
      obtain ⟨j, h1, h2, h3, h4, h5⟩ := ih _ _ x hx
      refine ⟨j, h1, by omega, by omega, h4, ?_⟩
      rw [show j + 1 - i = (j + 1 - (i + 1)) + 1 by omega, ds_head]
      omega
    split at hx
    · next hc =>
      rcases List.mem_cons.1 hx with rfl | hx
      · refine ⟨i, rfl, Nat.le_refl _, by omega, hc.1, ?_⟩
        rw [show i + 1 - i = 0 + 1 by omega, ds, ds, Nat.add_zero]
        omega
      · exact key hx
    · exact key hx
theorem headD_mem {L : List Int} (h : 0 ≤ L.headD (-1)) : L.headD (-1) ∈ L := by
  cases L with
  | nil => simp at h
  | cons a r => simp
theorem Inv.onst {l : List Ins} {k : Nat} {s : JS} (h : Inv l k s) {p : Nat} (hp : p < s.opn.length) : ∃ i : Nat, s.opn.getD p default = i ∧ i < k ∧ isOpn (l.getD i default).op ∧ OpI l k s i p := by
  obtain ⟨i, e1, e2, e3⟩ := h.st p hp
  refine ⟨i, e1, e2, e3, ?_⟩
  rcases h.opn i e2 e3 with ⟨p', hp'⟩ | ⟨e, _, _, _, h4, _, _⟩
  · have : p' = p := by
      rcases Nat.lt_trichotomy p' p with g | g | g
      · have := h.inc p' p g hp; have := hp'.2.1; omega
      · exact g
      · have := h.inc p p' g hp'.1; have := hp'.2.1; omega
    subst this; exact hp'
  · have := h.no p hp
    rw [e1, h4] at this
    omega
theorem rd_lt {l : List Int} {i : Nat} (h : i < l.length) : rd l i = l.getD i default := by
  unfold rd
  rw [if_pos ⟨by omega, by omega⟩, Int.toNat_natCast]
/-- what is known of the newest open one -/
theorem Inv.newest {l : List Ins} {k : Nat} {s : JS} (h : Inv l k s) (hk : k < l.length) (h0 : 0 < s.opn.length) : ∃ t : Nat, s.last = t ∧ t < k ∧ s.opn.getD (s.opn.length - 1) default = t ∧ isOpn (l.getD t default).op ∧ OpI l k s t (s.opn.length - 1) ∧ rOwner l k 0 = t ∧ rd s.el t = s.el.getD t default ∧ -1 ≤ rd s.el t := by
  obtain ⟨t, e1, e2, e3, e4⟩ := h.onst (p := s.opn.length - 1) (by omega)
  have hl := h.ok.el
  have hr : rd s.el t = s.el.getD t default := rd_lt (by omega)
  refine ⟨t, e1, e2, e1, e3, e4, (h.own.top h0).trans e1, hr, ?_⟩
  rw [hr]
  exact (h.ok.elr _ (getD_mem (by omega))).1
theorem inv_turned {l : List Ins} {k : Nat} {s : JS} (h : Inv l k s) (hk : k < l.length) (hx : (l.getD k default).op = 5) (hm : s.mayTurn l) (hok : (s.turned k).Ok l.length) : Inv l (k + 1) (s.turned k) := by
  obtain ⟨h0, hm4, hml⟩ := hm
  obtain ⟨t, hlast, htk, htop, hto, hT, hown, hrl, hrp⟩ := h.newest hk h0
  rw [hlast, Int.toNat_natCast] at hm4 hml
  have hnil : rElses l (k - (t + 1)) (t + 1) 0 = [] := rElses_nil (by rw [← hT.2.2.2.2.2.1]; omega)
  have hno : ¬ isOpn (l.getD k default).op := by unfold isOpn; omega
  have h11 : (l.getD k default).op ≠ 11 := by omega
  have hdl : dl (l.getD k default).op = 0 := by unfold dl; rw [if_neg hno, if_neg h11]
  have hbad : ¬ badElse l k := fun hb => by
    rcases ((bad_iff hown).1 hb).2 with g | g
    · exact g hm4
    · rw [hnil] at g; simp at g
  have hlen : ((s.turned k).opn.length : Int) = s.opn.length + dl (l.getD k default).op := by rw [hdl]; simp [JS.turned]
  have hopn : (s.turned k).opn = s.opn := rfl
  have hen : (s.turned k).en = s.en := rfl
  have hds0 : ds l 0 (k + 1) = ds l 0 k + dl (l.getD k default).op := by rw [ds, Nat.zero_add]
  have hlt : ∀ i, i < k + 1 → i ≠ k → i < k := fun i a b => by omega
  have hel : ∀ i : Nat, rd (s.turned k).el i = if i = t then (k : Int) else rd s.el i := fun i => by
    unfold JS.turned; dsimp only; rw [hlast, Int.toNat_natCast]; exact rd_set (by have := h.ok.el; omega)
  have hop : ∀ i : Nat, rd (s.turned k).op i = if i = k then (t : Int) else rd s.op i := fun i => by
    unfold JS.turned; dsimp only; rw [hlast, Int.toNat_natCast]; exact rd_set (by have := h.ok.op; omega)
  obtain ⟨f1, f2, f3⟩ := h.fut k (Nat.le_refl _)
  refine ⟨hok, h.own.same hno h11, fun p hp => ?_, h.inc, h.no, ?_, h.dp, h.ld, ?_, fun i hi hxi => ?_, fun i hi hxi => ?_, fun i hi hxi => ?_, fun i hi g1 g2 g3 => ?_, fun i hi => ?_⟩
  · obtain ⟨i, e1, e2, e3⟩ := h.st p hp
    exact ⟨i, e1, by omega, e3⟩
  · rw [hopn, hds0]; have := h.len; omega
  · rw [← h.cl, show l.length - k = (l.length - (k + 1)) + 1 by omega, rCl, hdl, if_neg (by rintro (hb | hb); exact hbad hb; omega)]
    have := h.ld
    show rCl l _ _ (s.opn.length : Int) s.dp = _
    congr 1
    all_goals omega
  · have hik := hlt i hi (fun e => by subst e; exact hno hxi)
    by_cases hit : i = t
    · subst hit
      obtain ⟨a1, a2, a3, a4, a5, a6, a7, a8⟩ := hT
      have hd := ds_succ (l := l) htk
      have he : rElses l (k + 1 - (i + 1)) (i + 1) 0 = [(k : Int)] := by rw [els_succ htk, hnil, if_pos ⟨hx, by omega⟩]; rfl
      refine .inl ⟨s.opn.length - 1, a1, a2, by rw [hd, hopn]; omega, fun j hj0 hj => ?_, a5, ?_, ?_, ?_⟩
      · by_cases hjk : j ≤ k - (i + 1)
        · exact a4 j hj0 hjk
        · have e : j = k + 1 - (i + 1) := by omega
          subst e
          rw [hd]; omega
      · rw [hel, if_pos rfl, he]; rfl
      · rw [he]; simp
      · rw [hop, if_neg (by omega)]; exact a8
    · have e1 : rd (s.turned k).el i = rd s.el i := by rw [hel, if_neg hit]
      have e2 : rd (s.turned k).op i = rd s.op i := by rw [hop, if_neg (by omega)]
      rcases h.opn i hik hxi with ⟨p, hp⟩ | hc
      · refine .inl ⟨p, hp.ext hik rfl e1 e2 rfl hlen hp.1 (.inr ?_)⟩
        rw [hopn]
        have : p ≠ s.opn.length - 1 := fun e => by
          have := hp.2.1
          rw [e, htop] at this
          omega
        have := hp.1
        omega
      · exact .inr (hc.ext rfl e1 e2)
  · by_cases hik : i = k
    · subst hik
      refine ⟨t, hown, htk, hto, by rw [hel, if_neg (by omega)]; exact f2, by rw [hop, if_pos rfl], .inl ⟨s.opn.length - 1, by rw [hopn]; omega, htop, by rw [hel, if_pos rfl], f1, ?_, fun j h1 h2 => by omega⟩⟩
      rw [Nat.sub_self, hopn]
      show (0 : Int) = _
      omega
    · have hik' := hlt i hi hik
      refine (h.els i hik' hxi).ext hik' rfl (by rw [hel, if_neg (fun e => by subst e; unfold isOpn at hto; omega)]) (by rw [hop, if_neg hik]) (fun p o hp ho hlo => ⟨hp, rfl, ?_⟩) hlen
      rw [hel, if_neg]
      rintro rfl
      omega
  · have hik := hlt i hi (fun e => by subst e; exact h11 hxi)
    obtain ⟨g1, g2, g3⟩ := h.end_ i hik hxi
    exact ⟨g1, by rw [hel, if_neg (fun e => by subst e; unfold isOpn at hto; omega)]; exact g2, by rw [hop, if_neg (by omega)]; exact g3⟩
  · have hik := hlt i hi (fun e => by subst e; exact g2 hx)
    obtain ⟨e1, e2, e3⟩ := h.oth i hik g1 g2 g3
    exact ⟨e1, by rw [hel, if_neg (fun e => by subst e; exact g1 hto)]; exact e2, by rw [hop, if_neg (by omega)]; exact e3⟩
  · obtain ⟨e1, e2, e3⟩ := h.fut i (by omega)
    exact ⟨e1, by rw [hel, if_neg (by omega)]; exact e2, by rw [hop, if_neg (by omega)]; exact e3⟩
theorem inv_closed {l : List Ins} {k : Nat} {s : JS} (h : Inv l k s) (hk : k < l.length) (hx : (l.getD k default).op = 11) (h0 : 0 < s.opn.length) (hok : (s.closed k).Ok l.length) : Inv l (k + 1) (s.closed k) := by
  obtain ⟨t, hlast, htk, htop, hto, hT, hown, hrl, hrp⟩ := h.newest hk h0
  have hno : ¬ isOpn (l.getD k default).op := by unfold isOpn; omega
  have h5 : (l.getD k default).op ≠ 5 := by omega
  have hdl : dl (l.getD k default).op = -1 := by unfold dl; rw [if_neg hno, if_pos hx]
  have hopl : (s.closed k).opn.length = s.opn.length - 1 := by simp [JS.closed]
  have hlen : ((s.closed k).opn.length : Int) = s.opn.length + dl (l.getD k default).op := by rw [hdl, hopl]; omega
  have hopn : ∀ p, p < s.opn.length - 1 → (s.closed k).opn.getD p default = s.opn.getD p default := fun p hp => getD_take_lt hp
  have hds0 : ds l 0 (k + 1) = ds l 0 k + dl (l.getD k default).op := by rw [ds, Nat.zero_add]
  have hlt : ∀ i, i < k + 1 → i ≠ k → i < k := fun i a b => by omega
  have hel : (s.closed k).el = s.el := rfl
  have hop : ∀ i : Nat, rd (s.closed k).op i = if i = k then (t : Int) else rd s.op i := fun i => by
    unfold JS.closed; dsimp only; rw [hlast, Int.toNat_natCast]; exact rd_set (by have := h.ok.op; omega)
  have hen : ∀ i : Nat, rd (s.closed k).en i = if i = t ∨ (i : Int) = rd s.el t then (k : Int) else rd s.en i := fun i => by
    have hl := h.ok.en
    unfold JS.closed; dsimp only; rw [hlast, Int.toNat_natCast, ← hrl]
    have hq2 := (h.ok.elr _ (getD_mem (show t < s.el.length by have := h.ok.el; omega))).2
    rw [← hrl] at hq2
    split
    · rw [rd_set (by rw [List.length_set]; omega), rd_set (by omega)]
      by_cases e1 : i = (rd s.el t).toNat
      · rw [if_pos e1, if_pos (.inr (by omega))]
      · rw [if_neg e1]
        by_cases e2 : i = t
        · rw [if_pos e2, if_pos (.inl e2)]
        · rw [if_neg e2, if_neg (by rintro (g | g); exact e2 g; omega)]
    · rw [rd_set (by omega)]
      by_cases e2 : i = t
      · rw [if_pos e2, if_pos (.inl e2)]
      · rw [if_neg e2, if_neg (by rintro (g | g); exact e2 g; omega)]
  obtain ⟨a1, a2, a3, a4, a5, a6, a7, a8⟩ := hT
  have hdk := ds_succ (l := l) htk
  have hz : 1 + ds l (t + 1) (k - (t + 1) + 1) = 0 := by rw [show k - (t + 1) + 1 = k + 1 - (t + 1) by omega, hdk]; omega
  have hq : ∀ i : Nat, (i : Int) = rd s.el t → t < i ∧ i < k ∧ (l.getD i default).op = 5 ∧ rEnd l (l.length - (i + 1)) (i + 1) 1 = k := by
    intro i hi
    have hm : (i : Int) ∈ rElses l (k - (t + 1)) (t + 1) 0 := by
      rw [hi, a6]; exact headD_mem (by rw [← a6, ← hi]; omega)
    obtain ⟨j, e1, e2, e3, e4, e5⟩ := rElses_mem l _ _ _ _ hm
    have ej : j = i := by omega
    subst ej
    refine ⟨by omega, by omega, e4, ?_⟩
    have hadd : ∀ b, ds l (j + 1) b = ds l (t + 1) (j + 1 - (t + 1) + b) := fun b => by
      rw [ds_add, show t + 1 + (j + 1 - (t + 1)) = j + 1 by omega]; omega
    have := rEnd_hit l (k - (j + 1)) (l.length - (k + 1)) (j + 1) 1 (fun b hb0 hb => by rw [hadd]; exact a4 _ (by omega) (by omega)) (by
      rw [hadd, show j + 1 - (t + 1) + (k - (j + 1) + 1) = k - (t + 1) + 1 by omega]; exact hz)
    rw [show k - (j + 1) + (l.length - (k + 1) + 1) = l.length - (j + 1) by omega, show j + 1 + (k - (j + 1)) = k by omega] at this
    exact this
  have hend : rEnd l (l.length - (t + 1)) (t + 1) 1 = k := by
    have := rEnd_hit l (k - (t + 1)) (l.length - (k + 1)) (t + 1) 1 a4 hz
    rw [show k - (t + 1) + (l.length - (k + 1) + 1) = l.length - (t + 1) by omega, show t + 1 + (k - (t + 1)) = k by omega] at this
    exact this
  have henn : ∀ i : Nat, i ≠ t → (isOpn (l.getD i default).op ∨ (l.getD i default).op ≠ 5) → rd (s.closed k).en i = rd s.en i := fun i h1 h2 => by
    rw [hen, if_neg]
    rintro (g | g)
    · exact h1 g
    · have := (hq i g).2.2.1
      unfold isOpn at h2
      omega
  obtain ⟨f1, f2, f3⟩ := h.fut k (Nat.le_refl _)
  refine ⟨hok, h.own.closed hx, fun p hp => ?_, fun p q hpq hq' => ?_, fun p hp => ?_, ?_, h.dp, ?_, ?_, fun i hi hxi => ?_, fun i hi hxi => ?_, fun i hi hxi => ?_, fun i hi g1 g2 g3 => ?_, fun i hi => ?_⟩
  · obtain ⟨i, e1, e2, e3⟩ := h.st p (by omega)
    exact ⟨i, (hopn p (by omega)).trans e1, by omega, e3⟩
  · rw [hopn p (by omega), hopn q (by omega)]; exact h.inc p q hpq (by omega)
  · rw [hopn p (by omega)]
    obtain ⟨i, e1, e2, e3⟩ := h.st p (by omega)
    have := h.inc p (s.opn.length - 1) (by omega) (by omega)
    have hn := h.no p (by omega)
    rw [e1] at hn ⊢
    rw [henn i (by omega) (.inl e3)]
    exact hn
  · rw [hlen, hds0]; have := h.len; omega
  · rw [hopl]; have := h.ld; show _ ≤ s.dp; omega
  · rw [← h.cl, show l.length - k = (l.length - (k + 1)) + 1 by omega, rCl, hdl, if_neg (by rintro (hb | hb); exact h5 hb.1; omega)]
    have := h.ld
    show rCl l _ _ ((s.closed k).opn.length : Int) s.dp = _
    rw [hopl]
    congr 1
    all_goals omega
  · have hik := hlt i hi (fun e => by subst e; exact hno hxi)
    by_cases hit : i = t
    · subst hit
      exact .inr ⟨k, hik, by omega, hend, by rw [hen, if_pos (.inl rfl)], a6, by rw [hop, if_neg (by omega)]; exact a8⟩
    · have e2 : rd (s.closed k).op i = rd s.op i := by rw [hop, if_neg (by omega)]
      have e1 := henn i hit (.inl hxi)
      rcases h.opn i hik hxi with ⟨p, hp⟩ | hc
      · have : p ≠ s.opn.length - 1 := fun e => by
          have := hp.2.1
          rw [e, htop] at this
          omega
        have := hp.1
        exact .inl ⟨p, hp.ext hik e1 rfl e2 (hopn p (by omega)) hlen (by omega) (.inl h5)⟩
      · exact .inr (hc.ext e1 rfl e2)
  · have hik := hlt i hi (fun e => by subst e; exact h5 hxi)
    have hit : i ≠ t := fun e => by subst e; unfold isOpn at hto; omega
    have e2 : rd (s.closed k).op i = rd s.op i := by rw [hop, if_neg (by omega)]
    by_cases hiq : (i : Int) = rd s.el t
    · obtain ⟨o, b1, b2, b3, b4, b5, b6⟩ := h.els i hik hxi
      exact ⟨o, b1, b2, b3, b4, e2.trans b5, .inr (by rw [hen, if_pos (.inr hiq), (hq i hiq).2.2.2])⟩
    · refine (h.els i hik hxi).ext hik (by rw [hen, if_neg (by rintro (g | g); exact hit g; exact hiq g)]) rfl e2 (fun p o hp ho hlo => ?_) hlen
      have : p ≠ s.opn.length - 1 := fun e => by
        rw [e, htop] at ho
        have : o = t := by omega
        subst this
        exact hiq hlo.symm
      exact ⟨by omega, hopn p (by omega), rfl⟩
  · have hit : i ≠ t := fun e => by subst e; unfold isOpn at hto; omega
    have e1 := henn i hit (.inr (by omega))
    by_cases hik : i = k
    · subst hik
      exact ⟨e1.trans f1, f2, by rw [hop, if_pos rfl]; exact hown.symm⟩
    · obtain ⟨g1, g2, g3⟩ := h.end_ i (hlt i hi hik) hxi
      exact ⟨e1.trans g1, g2, by rw [hop, if_neg hik]; exact g3⟩
  · have hik := hlt i hi (fun e => by subst e; exact g3 hx)
    obtain ⟨e1, e2, e3⟩ := h.oth i hik g1 g2 g3
    exact ⟨(henn i (fun e => by subst e; exact g1 hto) (.inr g2)).trans e1, e2, by rw [hop, if_neg (by omega)]; exact e3⟩
  · obtain ⟨e1, e2, e3⟩ := h.fut i (by omega)
    refine ⟨?_, e2, by rw [hop, if_neg (by omega)]; exact e3⟩
    rw [hen, if_neg (by rintro (g | g); omega; have := (hq i g).2.1; omega)]
    exact e1
theorem inv_fail {l : List Ins} {k : Nat} {s : JS} (h : Inv l k s) (hk : k < l.length) (hs : JS.step l s k = none) : (rCl l l.length 0 0 0).1 = false := by
  have key : badElse l k ∨ (s.opn.length : Int) + dl (l.getD k default).op < 0 := by
    unfold JS.step at hs
    dsimp only at hs
    split at hs
    · cases hs
    · next hno =>
      split at hs
      · next h5 =>
        split at hs
        · cases hs
        · next hm =>
          left
          by_cases h0 : s.opn.length = 0
          · exact ⟨h5, .inl (by rw [h.own.none h0]; omega)⟩
          · obtain ⟨t, hlast, htk, htop, hto, hT, hown, hrl, hrp⟩ := h.newest hk (by omega)
            refine (bad_iff hown).2 ⟨h5, ?_⟩
            by_cases h4 : (l.getD t default).op = 4
            · right
              have hp : 0 ≤ rd s.el t := by
                by_cases g : 0 ≤ rd s.el t
                · exact g
                · exfalso; apply hm
                  exact ⟨by omega, by rw [hlast, Int.toNat_natCast]; exact h4, by rw [hlast, Int.toNat_natCast, ← hrl]; omega⟩
              rw [hT.2.2.2.2.2.1] at hp
              exact List.length_pos_of_mem (headD_mem hp)
            · exact .inl h4
      · split at hs
        · next h5 h11 =>
          split at hs
          · next h0 =>
            right
            unfold dl; rw [if_neg (by unfold isOpn; omega), if_pos h11]; omega
          · cases hs
        · cases hs
  rw [← h.cl, show l.length - k = (l.length - (k + 1)) + 1 by omega, rCl, if_pos key]
theorem inv_step {l : List Ins} {k : Nat} {s s' : JS} (h : Inv l k s) (hk : k < l.length) (hs : JS.step l s k = some s') : Inv l (k + 1) s' := by
  have hok := JS.ok_step h.ok hk hs
  unfold JS.step at hs
  dsimp only at hs
  split at hs
  · next hx => cases hs; exact inv_opened h hk hx hok
  · next hno =>
    split at hs
    · next h5 =>
      split at hs
      · next hm => cases hs; exact inv_turned h hk h5 hm hok
      · cases hs
    · next h5 =>
      split at hs
      · next h11 =>
        split at hs
        · cases hs
        · next h0 => cases hs; exact inv_closed h hk h11 (by omega) hok
      · next h11 => cases hs; exact inv_same h hk hno h5 h11
theorem inv_run {l : List Ins} : ∀ k, k ≤ l.length → (∀ s, JS.run l k = some s → Inv l k s) ∧ (JS.run l k = none → (rCl l l.length 0 0 0).1 = false) := by
  intro k
  induction k with
  | zero => exact fun _ => ⟨fun s hs => by cases hs; exact inv_init l, fun hs => by cases hs⟩
  | succ k ih =>
    intro hk
    obtain ⟨i1, i2⟩ := ih (by omega)
    cases hr : JS.run l k with
    | none =>
      refine ⟨fun s hs => ?_, fun _ => i2 hr⟩
      rw [JS.run, hr] at hs; cases hs
    | some s0 =>
      refine ⟨fun s hs => ?_, fun hs => ?_⟩
      · rw [JS.run, hr] at hs; exact inv_step (i1 s0 hr) (by omega) hs
      · rw [JS.run, hr] at hs; exact inv_fail (i1 s0 hr) (by omega) hs
/-- what is known in the end -/
theorem inv_of {l : List Ins} {s : JS} (h : JS.of l = some s) : Inv l l.length s ∧ s.opn = [] := by
  unfold JS.of at h
  cases hr : JS.run l l.length with
  | none => rw [hr] at h; cases h
  | some s0 =>
    rw [hr] at h
    simp only [Option.bind_some] at h
    split at h
    · next h0 => cases h; exact ⟨(inv_run l.length (Nat.le_refl _)).1 s hr, List.length_eq_zero_iff.1 h0⟩
    · cases h
theorem tellsLaw (l : List Ins) : TellsLaw l := by
  refine ⟨fun s hs => ?_, fun hs => ?_⟩
  · obtain ⟨hI, ho⟩ := inv_of hs
    refine ⟨hI.ok, ?_, fun i hi => ⟨fun hx => ?_, fun hx => ?_, fun hx => hI.end_ i hi hx, fun g1 g2 g3 => hI.oth i hi g1 g2 g3⟩⟩
    · rw [← hI.cl, Nat.sub_self, ho]; rfl
    · rcases hI.opn i hi hx with ⟨p, hp⟩ | hc
      · have := hp.1; rw [ho] at this; exact absurd this (Nat.not_lt_zero _)
      · exact hc
    · obtain ⟨o, b1, b2, b3, b4, b5, b6⟩ := hI.els i hi hx
      rcases b6 with ⟨p, hp, _⟩ | b6
      · rw [ho] at hp; exact absurd hp (Nat.not_lt_zero _)
      · exact ⟨b6, b4, b5.trans b1.symm⟩
  · unfold JS.of at hs
    cases hr : JS.run l l.length with
    | none => exact (inv_run l.length (Nat.le_refl _)).2 hr
    | some s0 =>
      rw [hr] at hs
      simp only [Option.bind_some] at hs
      have hI := (inv_run l.length (Nat.le_refl _)).1 s0 hr
      split at hs
      · cases hs
      · next h0 => rw [← hI.cl, Nat.sub_self, rCl]; exact decide_eq_false (by omega)

end Go.Proofs.Ytbopalmbphgedaa
