/- Blocks lie within one another. No condition. -/
import Derived.Test.YtbopalmbphgedaaJumpP
namespace Go.Proofs.Ytbopalmbphgedaa
open Go Go.RowKit
set_option linter.unusedVariables false
set_option linter.unusedSimpArgs false
set_option linter.unnecessarySimpa false

/-- l' stands in l, from a on -/
def Stands (a : Nat) (l' l : List Ins) : Prop := a + l'.length ≤ l.length ∧ ∀ k, k < l'.length → l'.getD k default = l.getD (a + k) default
theorem Stands.ds {a : Nat} {l' l : List Ins} (h : Stands a l' l) : ∀ (m i : Nat), i + m ≤ l'.length → ds l' i m = Proofs.Ytbopalmbphgedaa.ds l (a + i) m := by
  intro m
  induction m with
  | zero => intro i _; rfl
  | succ m ih =>
    intro i hi
    rw [Proofs.Ytbopalmbphgedaa.ds, Proofs.Ytbopalmbphgedaa.ds, ih i (by omega), h.2 (i + m) (by omega), Nat.add_assoc]
theorem Stands.own {a : Nat} {l' l : List Ins} (h : Stands a l' l) : ∀ (k : Nat), k ≤ l'.length → ∀ d, rOwner l' k d = if (a : Int) ≤ rOwner l (a + k) d then rOwner l (a + k) d - a else -1 := by
  intro k
  induction k with
  | zero =>
    intro _ d
    have := (rOwner_range l a d).2
    rw [rOwner, Nat.add_zero, if_neg (by omega)]
  | succ k ih =>
    intro hk d
    rw [rOwner, ← Nat.add_assoc, rOwner, h.2 k (by omega)]
    split
    · split
      · rw [if_pos (by omega)]; omega
      · exact ih (by omega) _
    · split
      · exact ih (by omega) _
      · exact ih (by omega) _
theorem Stands.els {a : Nat} {l' l : List Ins} (h : Stands a l' l) : ∀ (m i : Nat) (d : Int), i + m ≤ l'.length → rElses l' m i d = (rElses l m (a + i) d).map (· - (a : Int)) := by
  intro m
  induction m with
  | zero => intro i d _; rfl
  | succ m ih =>
    intro i d hi
    rw [rElses, rElses, h.2 i (by omega), ih (i + 1) _ (by omega), Nat.add_assoc a i 1]
    split
    · rw [List.map_cons]; congr 1; omega
    · rfl
theorem Stands.bad {a : Nat} {l' l : List Ins} (h : Stands a l' l) {k : Nat} (hk : k < l'.length) (ho : (a : Int) ≤ rOwner l (a + k) 0) : badElse l' k ↔ badElse l (a + k) := by
  obtain ⟨o, eo⟩ : ∃ o : Nat, rOwner l (a + k) 0 = ((a + o : Nat) : Int) := ⟨(rOwner l (a + k) 0 - a).toNat, by omega⟩
  have hr := (rOwner_range l (a + k) 0).2
  have eo' : rOwner l' k 0 = (o : Int) := by rw [h.own k (by omega), if_pos ho, eo]; omega
  have e1 := h.2 o (by omega)
  have e2 := h.els (k - (o + 1)) (o + 1) 0 (by omega)
  rw [bad_iff eo, bad_iff eo', h.2 k hk, e1, e2, List.length_map, show a + k - (a + o + 1) = k - (o + 1) by omega, show a + o + 1 = a + (o + 1) by omega]
/-- the deepest -/
def mxs (l : List Ins) : Nat → Nat → Int → Int → Int
  | 0, _, _, M => M
  | m + 1, i, d, M => mxs l m (i + 1) (d + dl (l.getD i default).op) (max M (d + dl (l.getD i default).op))
theorem rCl_ok (l : List Ins) : ∀ (m i : Nat) (d M : Int), (∀ j, j < m → ¬ badElse l (i + j)) → (∀ j, j < m → 0 ≤ d + ds l i (j + 1)) → rCl l m i d M = (decide (d + ds l i m = 0), mxs l m i d M) := by
  intro m
  induction m with
  | zero => intro i d M _ _; simp [rCl, mxs, ds]
  | succ m ih =>
    intro i d M h1 h2
    have a1 := h1 0 (by omega)
    have a2 := h2 0 (by omega)
    rw [ds_head] at a2
    simp only [ds, Int.add_zero] at a2
    rw [rCl, mxs, if_neg (by rintro (h | h); exact a1 h; omega), ih (i + 1) _ _ (fun j hj => by have := h1 (j + 1) (by omega); rwa [show i + (j + 1) = i + 1 + j by omega] at this) (fun j hj => by have := h2 (j + 1) (by omega); rw [ds_head] at this; omega), ds_head, Int.add_assoc]
theorem rCl_no (l : List Ins) : ∀ (m i : Nat) (d M : Int), (rCl l m i d M).1 = true → (∀ j, j < m → ¬ badElse l (i + j)) ∧ (∀ j, j < m → 0 ≤ d + ds l i (j + 1)) ∧ d + ds l i m = 0 := by
  intro m
  induction m with
  | zero => intro i d M h; simp [rCl] at h; exact ⟨fun j hj => absurd hj (Nat.not_lt_zero _), fun j hj => absurd hj (Nat.not_lt_zero _), by simp [ds, h]⟩
  | succ m ih =>
    intro i d M h
    rw [rCl] at h
    split at h
    · cases h
    · next hb =>
      obtain ⟨a1, a2, a3⟩ := ih _ _ _ h
      have hb1 : ¬ badElse l i := fun e => hb (.inl e)
      have hb2 : 0 ≤ d + dl (l.getD i default).op := by
        rcases Classical.em (d + dl (l.getD i default).op < 0) with g | g
        · exact absurd (.inr g) hb
        · omega
      refine ⟨fun j hj => ?_, fun j hj => ?_, by rw [ds_head]; omega⟩
      · cases j with
        | zero => exact hb1
        | succ j => rw [show i + (j + 1) = i + 1 + j by omega]; exact a1 j (by omega)
      · rw [ds_head]
        cases j with
        | zero => simp only [ds]; omega
        | succ j => have := a2 j (by omega); omega
/-- a body that closes -/
def Shuts (l : List Ins) : Prop := (∀ j, j < l.length → ¬ badElse l j) ∧ (∀ j, j ≤ l.length → 0 ≤ ds l 0 j) ∧ ds l 0 l.length = 0
theorem Shuts.rCl {l : List Ins} (h : Shuts l) : rCl l l.length 0 0 0 = (true, mxs l l.length 0 0 0) := by
  rw [rCl_ok l _ _ _ _ (fun j hj => by rw [Nat.zero_add]; exact h.1 j hj) (fun j hj => by rw [Int.zero_add]; exact h.2.1 _ (by omega)), Int.zero_add, h.2.2]
  rfl
theorem good_of {l : List Ins} {s : JS} (h : JS.of l = some s) : Shuts l := by
  have hc := ((tellsLaw l).1 s h).2.1
  obtain ⟨a1, a2, a3⟩ := rCl_no l _ _ _ _ (congrArg Prod.fst hc)
  refine ⟨fun j hj => ?_, fun j hj => ?_, by omega⟩
  · have := a1 j hj; rwa [Nat.zero_add] at this
  · cases j with
    | zero => exact Int.le_refl _
    | succ j => have := a2 j (by omega); omega
theorem of_good {l : List Ins} (h : Shuts l) : ∃ s, JS.of l = some s := by
  cases hs : JS.of l with
  | none => have := (tellsLaw l).2 hs; rw [h.rCl] at this; cases this
  | some s => exact ⟨s, rfl⟩
theorem dp_of {l : List Ins} {s : JS} (h : JS.of l = some s) : s.dp = mxs l l.length 0 0 0 := by
  have hc := ((tellsLaw l).1 s h).2.1
  rw [(good_of h).rCl] at hc
  exact (congrArg Prod.snd hc).symm
theorem rEnd_eq (l : List Ins) : ∀ (m i : Nat) (d e : Int), rEnd l m i d = e → 0 ≤ e → ∃ q : Nat, e = ((i + q : Nat) : Int) ∧ q < m ∧ (∀ j, 0 < j → j ≤ q → d + ds l i j ≠ 0) ∧ d + ds l i (q + 1) = 0 := by
  intro m
  induction m with
  | zero => intro i d e h he; rw [rEnd] at h; omega
  | succ m ih =>
    intro i d e h he
    rw [rEnd] at h
    split at h
    · next h0 => exact ⟨0, by omega, by omega, fun j h1 h2 => by omega, by rw [ds_head]; simp only [ds]; omega⟩
    · next h0 =>
      obtain ⟨q, e1, e2, e3, e4⟩ := ih _ _ _ h he
      refine ⟨q + 1, by omega, by omega, fun j h1 h2 => ?_, by rw [ds_head]; omega⟩
      rw [show j = (j - 1) + 1 by omega, ds_head]
      by_cases hj : j = 1
      · subst hj; simp only [Nat.sub_self, ds]; omega
      · have := e3 (j - 1) (by omega) (by omega); omega
theorem ds_pos {l : List Ins} {i m : Nat} {d : Int} (hd : 0 < d) (h : ∀ j, 0 < j → j ≤ m → d + ds l i j ≠ 0) : ∀ j, j ≤ m → 0 < d + ds l i j := by
  intro j
  induction j with
  | zero => intro _; simp only [ds]; omega
  | succ j ih =>
    intro hj
    have h1 := ih (by omega)
    have h2 := h (j + 1) (by omega) hj
    have h3 := (dl_range (l.getD (i + j) default).op).1
    rw [ds] at h2 ⊢
    omega
theorem ds_hit {l : List Ins} {i : Nat} {d : Int} (hd : 0 < d) : ∀ m, d + ds l i m ≤ 0 → ∃ q, q < m ∧ (∀ j, 0 < j → j ≤ q → d + ds l i j ≠ 0) ∧ d + ds l i (q + 1) = 0 := by
  intro m
  induction m using Nat.strongRecOn with
  | ind m ih =>
    intro h
    cases m with
    | zero => simp only [ds] at h; omega
    | succ m =>
      by_cases hx : ∃ j, j ≤ m ∧ d + ds l i j ≤ 0
      · obtain ⟨j, h1, h2⟩ := hx
        obtain ⟨q, a1, a2, a3⟩ := ih j (by omega) h2
        exact ⟨q, by omega, a2, a3⟩
      · have hall : ∀ j, j ≤ m → 0 < d + ds l i j := fun j hj => by
          rcases Classical.em (d + ds l i j ≤ 0) with g | g
          · exact absurd ⟨j, hj, g⟩ hx
          · omega
        refine ⟨m, by omega, fun j _ hj => by have := hall j hj; omega, ?_⟩
        have := hall m (Nat.le_refl _)
        have h3 := (dl_range (l.getD (i + m) default).op).1
        rw [ds] at h ⊢
        omega
theorem own_ge (l : List Ins) (a : Nat) : ∀ (m : Nat) (d : Int), 0 ≤ d → d < ds l a m → (a : Int) ≤ rOwner l (a + m) d := by
  intro m
  induction m with
  | zero => intro d h1 h2; simp only [ds] at h2; omega
  | succ m ih =>
    intro d h1 h2
    rw [← Nat.add_assoc, rOwner]
    rw [ds] at h2
    unfold dl at h2
    split
    · next hx =>
      rw [if_pos hx] at h2
      split
      · omega
      · exact ih _ (by omega) (by omega)
    · next hx =>
      rw [if_neg hx] at h2
      split
      · next hx2 => rw [if_pos hx2] at h2; exact ih _ (by omega) (by omega)
      · next hx2 => rw [if_neg hx2] at h2; exact ih _ (by omega) (by omega)
theorem own_out (l : List Ins) (a : Nat) : ∀ (m : Nat) (d : Int), (∀ j, j ≤ m → 0 ≤ ds l a j) → ds l a m ≤ d → rOwner l (a + m) d = rOwner l a (d - ds l a m) := by
  intro m
  induction m with
  | zero => intro d _ _; simp [ds]
  | succ m ih =>
    intro d h1 h2
    have hm := h1 m (by omega)
    have ih' := fun d hd => ih d (fun j hj => h1 j (by omega)) hd
    rw [← Nat.add_assoc, rOwner]
    rw [ds] at h2 ⊢
    unfold dl at h2 ⊢
    split
    · next hx =>
      rw [if_pos hx] at h2
      rw [if_neg (by omega), ih' _ (by omega)]
      congr 1; omega
    · next hx =>
      rw [if_neg hx] at h2
      split
      · next hx2 => rw [if_pos hx2] at h2; rw [ih' _ (by omega)]; congr 1; omega
      · next hx2 => rw [if_neg hx2] at h2; rw [ih' _ (by omega)]; congr 1; omega
theorem rElses_in (l : List Ins) : ∀ (m i : Nat) (d : Int) (j : Nat), i ≤ j → j < i + m → (l.getD j default).op = 5 → d + ds l i (j + 1 - i) = 0 → (j : Int) ∈ rElses l m i d := by
  intro m
  induction m with
  | zero => intro i d j h1 h2; omega
  | succ m ih =>
    intro i d j h1 h2 h3 h4
    rw [rElses]
    by_cases hj : j = i
    · subst hj
      rw [show j + 1 - j = 0 + 1 by omega, ds_head] at h4
      simp only [ds] at h4
      rw [if_pos ⟨h3, by omega⟩]
      exact List.mem_cons_self ..
    · have := ih (i + 1) (d + dl (l.getD i default).op) j (by omega) (by omega) h3 (by rw [show j + 1 - i = (j + 1 - (i + 1)) + 1 by omega, ds_head] at h4; omega)
      split
      · exact List.mem_cons_of_mem _ this
      · exact this
theorem stands_sub (l : List Ins) {a b : Nat} (h1 : a ≤ b) (h2 : b ≤ l.length) : Stands a ((l.take b).drop a) l ∧ ((l.take b).drop a).length = b - a := by
  have hl : ((l.take b).drop a).length = b - a := by rw [List.length_drop, List.length_take]; omega
  refine ⟨⟨by omega, fun k hk => ?_⟩, hl⟩
  rw [hl] at hk
  simp only [List.getD_eq_getElem?_getD, List.getElem?_drop, List.getElem?_take]
  rw [if_pos (by omega)]
theorem dl5 {x : Int} (h : x = 5) : dl x = 0 := by subst h; rfl
theorem sub_good {l : List Ins} (hG : Shuts l) {a b : Nat} (h1 : a ≤ b) (h2 : b ≤ l.length) (h3 : ∀ j, j ≤ b - a → 0 ≤ ds l a j) (h4 : ds l a (b - a) = 0) (h5 : ∀ c, c < b - a → (l.getD (a + c) default).op = 5 → ds l a c ≠ 0) : ∃ s, JS.of ((l.take b).drop a) = some s := by
  obtain ⟨hS, hl⟩ := stands_sub l h1 h2
  refine of_good ⟨fun j hj hb => ?_, fun j hj => ?_, ?_⟩
  · rw [hl] at hj
    have hx : (l.getD (a + j) default).op = 5 := by rw [← hS.2 j (by omega)]; exact hb.1
    have := h5 j hj hx
    have := h3 j (by omega)
    have ho := own_ge l a j 0 (Int.le_refl _) (by omega)
    exact hG.1 (a + j) (by omega) ((hS.bad (by omega) ho).1 hb)
  · rw [hS.ds j 0 (by omega)]; exact h3 j (by omega)
  · rw [hS.ds _ 0 (by omega), hl]; exact h4
/-- what is to be shown of a block -/
def NestsAt (l : List Ins) (s : JS) (i : Nat) : Prop :=
  ∃ e : Nat, i < e ∧ e < l.length ∧ rd s.en i = e ∧ (l.getD e default).op = 11 ∧ rd s.op e = i ∧ (∀ k : Nat, i < k → k < e → rd s.en k ≤ e ∧ ((l.getD k default).op = 11 → (i : Int) < rd s.op k)) ∧
    ((∃ a : Nat, rd s.el i = a ∧ i < a ∧ a < e ∧ (l.getD a default).op = 5 ∧ rd s.en a = e ∧ rd s.op a = i ∧ (∃ s', JS.of ((l.take a).drop (i + 1)) = some s') ∧ ∃ s', JS.of ((l.take e).drop (a + 1)) = some s') ∨
      (rd s.el i = -1 ∧ ∃ s', JS.of ((l.take e).drop (i + 1)) = some s'))
theorem nests {l : List Ins} {s : JS} (h : JS.of l = some s) {i : Nat} (hi : i < l.length) (hx : isOpn (l.getD i default).op) : NestsAt l s i := by
  have hG := good_of h
  obtain ⟨hok, -, hlaw⟩ := (tellsLaw l).1 s h
  obtain ⟨e, h1, h2, h3, h4, h5, h6⟩ := (hlaw i hi).1 hx
  obtain ⟨q, e1, e2, e3, e4⟩ := rEnd_eq l _ _ _ _ h3 (by omega)
  have hpos := ds_pos (by omega) e3
  have eq : e = i + 1 + q := by omega
  subst eq
  have hq := hpos q (Nat.le_refl _)
  have hdq : ds l (i + 1) (q + 1) = ds l (i + 1) q + dl (l.getD (i + 1 + q) default).op := by rw [ds]
  have hdr := (dl_range (l.getD (i + 1 + q) default).op).1
  have hq0 : ds l (i + 1) q = 0 := by omega
  have h11 : (l.getD (i + 1 + q) default).op = 11 := by
    have : dl (l.getD (i + 1 + q) default).op = -1 := by omega
    unfold dl at this
    split at this
    · omega
    · split at this
      · assumption
      · omega
  have hnn : ∀ j, j ≤ q → 0 ≤ ds l (i + 1) j := fun j hj => by have := hpos j hj; omega
  have hown : ∀ c, c ≤ q → ds l (i + 1) c = 0 → rOwner l (i + 1 + c) 0 = i := fun c hc h0 => by
    rw [own_out l (i + 1) c 0 (fun j hj => hnn j (by omega)) (by omega), h0, rOwner, if_pos hx, if_pos (by omega)]
  have hend : ∀ c, c < q → 0 ≤ ds l (i + 1) (c + 1) → rEnd l (l.length - (i + 1 + c + 1)) (i + 1 + c + 1) 1 ≤ ((i + 1 + q : Nat) : Int) ∧ (ds l (i + 1) (c + 1) = 0 → rEnd l (l.length - (i + 1 + c + 1)) (i + 1 + c + 1) 1 = ((i + 1 + q : Nat) : Int)) := fun c hc h0 => by
    have hadd : ∀ b, ds l (i + 1) (c + 1 + b) = ds l (i + 1) (c + 1) + ds l (i + 1 + c + 1) b := fun b => by
      rw [ds_add, show i + 1 + (c + 1) = i + 1 + c + 1 by omega]
    have ht := hadd (q - c)
    rw [show c + 1 + (q - c) = q + 1 by omega] at ht
    obtain ⟨q', a1, a2, a3⟩ := ds_hit (l := l) (i := i + 1 + c + 1) (d := 1) (by omega) (q - c) (by omega)
    have := rEnd_hit l q' (l.length - (i + 1 + c + 1) - (q' + 1)) (i + 1 + c + 1) 1 a2 a3
    rw [show q' + (l.length - (i + 1 + c + 1) - (q' + 1) + 1) = l.length - (i + 1 + c + 1) by omega] at this
    rw [this]
    refine ⟨by omega, fun h00 => ?_⟩
    have hq' := hadd (q' + 1)
    have : ¬ (c + 1 + (q' + 1) ≤ q) := fun hle => by have := hnn _ hle; omega
    omega
  have huniq : ∀ c1 c2, c1 < c2 → c2 < q → (l.getD (i + 1 + c1) default).op = 5 → (l.getD (i + 1 + c2) default).op = 5 → ds l (i + 1) c1 = 0 → ds l (i + 1) c2 = 0 → False := by
    intro c1 c2 g1 g2 g3 g4 g5 g6
    refine hG.1 (i + 1 + c2) (by omega) ((bad_iff (hown c2 (by omega) g6)).2 ⟨g4, .inr ?_⟩)
    refine List.length_pos_of_mem (rElses_in l _ _ _ (i + 1 + c1) (by omega) (by omega) g3 ?_)
    rw [show i + 1 + c1 + 1 - (i + 1) = c1 + 1 by omega, ds, dl5 g3]
    omega
  refine ⟨i + 1 + q, h1, h2, h4, h11, ?_, fun k hk1 hk2 => ?_, ?_⟩
  · rw [((hlaw _ h2).2.2.1 h11).2.2, hown q (Nat.le_refl _) hq0]
  · obtain ⟨c, rfl⟩ : ∃ c, k = i + 1 + c := ⟨k - (i + 1), by omega⟩
    have hc1 := hnn (c + 1) (by omega)
    obtain ⟨l1, l2, l3, l4⟩ := hlaw (i + 1 + c) (by omega)
    refine ⟨?_, fun hk11 => ?_⟩
    · by_cases g1 : isOpn (l.getD (i + 1 + c) default).op
      · obtain ⟨e', b1, b2, b3, b4, -⟩ := l1 g1
        rw [b4, ← b3]; exact (hend c (by omega) hc1).1
      · by_cases g2 : (l.getD (i + 1 + c) default).op = 5
        · rw [(l2 g2).1]; exact (hend c (by omega) hc1).1
        · by_cases g3 : (l.getD (i + 1 + c) default).op = 11
          · rw [(l3 g3).1]; omega
          · rw [(l4 g1 g2 g3).1]; omega
    · rw [(l3 hk11).2.2]
      have : dl (l.getD (i + 1 + c) default).op = -1 := by rw [hk11]; rfl
      rw [ds] at hc1
      have := own_ge l (i + 1) c 0 (Int.le_refl _) (by omega)
      omega
  · have eL : i + 1 + q - (i + 1) = q := by omega
    rw [eL] at h5
    by_cases ha : 0 ≤ rd s.el i
    · left
      rw [h5] at ha
      obtain ⟨a, a1, a2, a3, a4, a5⟩ := rElses_mem l _ _ _ _ (headD_mem ha)
      obtain ⟨c, rfl⟩ : ∃ c, a = i + 1 + c := ⟨a - (i + 1), by omega⟩
      rw [show i + 1 + c + 1 - (i + 1) = c + 1 by omega] at a5
      have hc0 : ds l (i + 1) c = 0 := by rw [ds, dl5 a4] at a5; omega
      obtain ⟨-, l2, -, -⟩ := hlaw (i + 1 + c) (by omega)
      refine ⟨i + 1 + c, by rw [h5, a1], by omega, by omega, a4, ?_, ?_, ?_, ?_⟩
      · rw [(l2 a4).1, (hend c (by omega) (by omega)).2 (by omega)]
      · rw [(l2 a4).2.2, hown c (by omega) hc0]
      · refine sub_good hG (by omega) (by omega) (fun j hj => hnn j (by omega)) (by rw [show i + 1 + c - (i + 1) = c by omega]; exact hc0) (fun c' hc' g1 g2 => huniq c' c (by omega) (by omega) g1 a4 g2 hc0)
      · have hadd : ∀ b, ds l (i + 1 + c + 1) b = ds l (i + 1) (c + 1 + b) := fun b => by
          rw [ds_add, show i + 1 + (c + 1) = i + 1 + c + 1 by omega]; omega
        refine sub_good hG (by omega) (by omega) (fun j hj => by rw [hadd]; exact hnn _ (by omega)) (by rw [hadd, show c + 1 + (i + 1 + q - (i + 1 + c + 1)) = q by omega]; exact hq0) (fun c' hc' g1 g2 => ?_)
        rw [hadd] at g2
        exact huniq c (c + 1 + c') (by omega) (by omega) a4 (by rw [show i + 1 + (c + 1 + c') = i + 1 + c + 1 + c' by omega]; exact g1) hc0 g2
    · right
      have hm1 : rd s.el i = -1 := by
        have := hok.elr (s.el.getD i default) (getD_mem (by have := hok.el; omega))
        rw [← rd_lt (by have := hok.el; omega)] at this
        omega
      have hnil := rElses_nil (h5.symm.trans hm1)
      refine ⟨hm1, sub_good hG (by omega) (by omega) (fun j hj => hnn j (by omega)) (by rw [eL]; exact hq0) (fun c hc g1 g2 => ?_)⟩
      have := rElses_in l q (i + 1) 0 (i + 1 + c) (by omega) (by omega) g1 (by rw [show i + 1 + c + 1 - (i + 1) = c + 1 by omega, ds, dl5 g1]; omega)
      rw [hnil] at this
      cases this

end Go.Proofs.Ytbopalmbphgedaa
